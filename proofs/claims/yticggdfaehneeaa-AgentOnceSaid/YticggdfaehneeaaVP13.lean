/- What the program's functions answer: plain functions,and that the interpreter answers what they do. Written by a program of this session,out of the translation. -/
import Derived.Test.YticggdfaehneeaaVP12
namespace Go.Proofs.YticggdfaehneeaaV
open Go
set_option linter.unusedVariables false
set_option linter.unusedSimpArgs false
set_option maxRecDepth 8000
set_option maxHeartbeats 4000000
-- f5_aiirrzai10rzi: f5 heliograph/heliographlaw19.AgentOnce
inductive R5_aiirrzai10rzi where
 | o0 (y:Bool)
noncomputable def R5_aiirrzai10rzi.st : R5_aiirrzai10rzi → V × List O × List O
 | .o0 y => (.p (.bool y),[],[])
noncomputable def f5_aiirrzai10rzi_j6 (k:Nat) (x12:Int) (x94:Bool) (m3 m3_1:Int) (m3_2:List T65) (m3_3:List T39) (m7 m7_1:Int) (m7_2:List T65) (m23:List T39) (m8 m8_1 m8_2 m8_3 m8_4 m8_5 m8_6 m8_7 m8_8 m8_9 m8_10:Int) (m8_11:List Int) (m11 m11_1 m11_2 m11_3 m11_4 m11_5 m11_6 m11_7 m11_8 m11_9 m11_10:Int) (m11_11:List Int) : Option R5_aiirrzai10rzi :=
 cond ((x12 == 0))
  (
   cond ((m11 == m8))
    (
     Option.bind (f21_aiirrzaiirrz k m3 m3_1 m3_2 m3_3 m7 m7_1 m7_2 m23) fun o3 =>
      match o3 with
      | .o0 v6 =>
       some (R5_aiirrzai10rzi.o0 v6))
    (some (R5_aiirrzai10rzi.o0 false)))
  (some (R5_aiirrzai10rzi.o0 false))
theorem f5_aiirrzai10rzi_j6_ok (k:Nat) (x12:Int) (x94:Bool) (m3 m3_1:Int) (m3_2:List T65) (m3_3:List T39) (m7 m7_1:Int) (m7_2:List T65) (m23:List T39) (m8 m8_1 m8_2 m8_3 m8_4 m8_5 m8_6 m8_7 m8_8 m8_9 m8_10:Int) (m8_11:List Int) (m11 m11_1 m11_2 m11_3 m11_4 m11_5 m11_6 m11_7 m11_8 m11_9 m11_10:Int) (m11_11:List Int) (r:R5_aiirrzai10rzi) (hF:f5_aiirrzai10rzi_j6 k x12 x94 m3 m3_1 m3_2 m3_3 m7 m7_1 m7_2 m23 m8 m8_1 m8_2 m8_3 m8_4 m8_5 m8_6 m8_7 m8_8 m8_9 m8_10 m8_11 m11 m11_1 m11_2 m11_3 m11_4 m11_5 m11_6 m11_7 m11_8 m11_9 m11_10 m11_11 = some r) : finK Try.prog Try.f5 0 (EX 5 k (nav B5 [2,2,2,2,2,2,2,2,2]) (⟨116,[(3,.ptr 3 0),(7,.ptr 7 0),(8,.ptr 8 0),(11,.ptr 11 0),(12,.p (.int .i64 x12)),(94,.p (.bool x94))],[(3,.box 26 [.p (.int .i64 m3),.p (.int .u32 m3_1),.sl 4 (rowsOf encT65 m3_2),.sl 11 (rowsOf encT39 m3_3)]),(7,.box 26 [.p (.int .i64 m7),.p (.int .u32 m7_1),.sl 4 (rowsOf encT65 m7_2),.own 23]),(23,.row false 11 39 (rowsOf encT39 m23)),(8,.box 48 [.p (.int .i64 m8),.p (.int .i64 m8_1),.p (.int .i64 m8_2),.p (.int .u32 m8_3),.p (.int .i64 m8_4),.p (.int .i64 m8_5),.p (.int .i64 m8_6),.p (.int .i64 m8_7),.p (.int .i64 m8_8),.p (.int .i64 m8_9),.p (.int .i64 m8_10),.sl 1 (rowsOf (encI .u8) m8_11)]),(11,.box 48 [.p (.int .i64 m11),.p (.int .i64 m11_1),.p (.int .i64 m11_2),.p (.int .u32 m11_3),.p (.int .i64 m11_4),.p (.int .i64 m11_5),.p (.int .i64 m11_6),.p (.int .i64 m11_7),.p (.int .i64 m11_8),.p (.int .i64 m11_9),.p (.int .i64 m11_10),.sl 1 (rowsOf (encI .u8) m11_11)])]⟩ : St)) = some r.st := by
 unfold f5_aiirrzai10rzi_j6 at hF
 simp (maxSteps:=999999) (disch:=first|exact D (by decide)|exact K (by kernel_rfl)) only [E,EE,↓reduceIte,simprocAttr,xk B5 [2,2,2,2,2,2,2,2,2] .sq rfl,rg B5 [1,2,2,2,2,2,2,2,2,2] 15 false rfl,hr_5_15]
 rcases cond_some hF with ⟨h1,hF⟩ | ⟨h1,hF⟩
 ·simp (maxSteps:=999999) (disch:=first|exact D (by decide)|exact K (by kernel_rfl)) only [E,EE,↓reduceIte,simprocAttr,fieldAddrV,t_48,t_3,h1]
  rcases cond_some hF with ⟨h2,hF⟩ | ⟨h2,hF⟩
  ·obtain ⟨o3,h4,hF⟩ := bs hF
   have hc5 := f21_aiirrzaiirrz_ok k m3 m3_1 m3_2 m3_3 m7 m7_1 m7_2 m23 _ h4
   cases o3 with
   | o0 v6 =>
    (try dsimp only at hF)
    (try simp only [NM,EE,R21_aiirrzaiirrz.st] at hc5)
    cases hF
    simp (maxSteps:=999999) (disch:=first|exact D (by decide)|exact K (by kernel_rfl)) only [E,EE,↓reduceIte,simprocAttr,t_26,callStep,CL,gv,List.contains,xk B5 [2,2,2,2,2,2,2,2,2,2] .rt rfl,finK_norm,finK_ret,fin5,R5_aiirrzai10rzi.st,h1,h2,hc5]
  ·cases hF
   simp (maxSteps:=999999) (disch:=first|exact D (by decide)|exact K (by kernel_rfl)) only [E,EE,↓reduceIte,simprocAttr,xk B5 [2,2,2,2,2,2,2,2,2,2] .rt rfl,finK_norm,finK_ret,fin5,R5_aiirrzai10rzi.st,h1,h2]
 ·cases hF
  simp (maxSteps:=999999) (disch:=first|exact D (by decide)|exact K (by kernel_rfl)) only [E,EE,↓reduceIte,simprocAttr,xk B5 [2,2,2,2,2,2,2,2,2,2] .rt rfl,finK_norm,finK_ret,fin5,R5_aiirrzai10rzi.st,h1]
noncomputable def f5_aiirrzai10rzi_j5 (k:Nat) (x2:Int) (x73:Bool) (m3 m3_1:Int) (m3_2:List T65) (m3_3:List T39) (m4 m4_1 m4_2 m4_3 m4_4 m4_5 m4_6 m4_7 m4_8 m4_9:Int) (m4_10:List Int) (m7 m7_1:Int) (m7_2:List T65) (m23:List T39) (m8 m8_1 m8_2 m8_3 m8_4 m8_5 m8_6 m8_7 m8_8 m8_9 m8_10:Int) (m8_11:List Int) : Option R5_aiirrzai10rzi :=
 Option.bind (f18_aiirrzai10rzi k m7 m7_1 m7_2 m23 m4 m4_1 m4_2 m4_3 m4_4 m4_5 m4_6 m4_7 m4_8 m4_9 m4_10 x2) fun o1 =>
  match o1 with
  | .o0 v4 v5 v6 v7 v8 v9 v10 v11 v12 v13 v14 v15 v16 v17 v18 v19 v20 =>
   cond ((m8 == 6))
    (
     cond ((v19 == 0))
      (some (R5_aiirrzai10rzi.o0 (v7 == 3)))
      (some (R5_aiirrzai10rzi.o0 false)))
    (
     cond ((m8 == 8))
      (
       cond ((v19 == 0))
        (some (R5_aiirrzai10rzi.o0 (v7 == 3)))
        (some (R5_aiirrzai10rzi.o0 false)))
      (
       cond ((m8 == 9))
        (
         cond ((v19 == 0))
          (some (R5_aiirrzai10rzi.o0 (v7 == 3)))
          (some (R5_aiirrzai10rzi.o0 false)))
        (f5_aiirrzai10rzi_j6 k v19 false m3 m3_1 m3_2 m3_3 m7 m7_1 m7_2 m23 m8 m8_1 m8_2 m8_3 m8_4 m8_5 m8_6 m8_7 m8_8 m8_9 m8_10 m8_11 v7 v8 v9 v10 v11 v12 v13 v14 v15 v16 v17 v18)))
  | .o1 v27 v28 v29 v30 v31 v32 v33 v34 v35 v36 v37 v38 v39 v40 v41 v42 v43 =>
   cond ((m8 == 6))
    (
     cond ((v43 == 0))
      (some (R5_aiirrzai10rzi.o0 (v31 == 3)))
      (some (R5_aiirrzai10rzi.o0 false)))
    (
     cond ((m8 == 8))
      (
       cond ((v43 == 0))
        (some (R5_aiirrzai10rzi.o0 (v31 == 3)))
        (some (R5_aiirrzai10rzi.o0 false)))
      (
       cond ((m8 == 9))
        (
         cond ((v43 == 0))
          (some (R5_aiirrzai10rzi.o0 (v31 == 3)))
          (some (R5_aiirrzai10rzi.o0 false)))
        (f5_aiirrzai10rzi_j6 k v43 false m3 m3_1 m3_2 m3_3 m7 m7_1 m7_2 m23 m8 m8_1 m8_2 m8_3 m8_4 m8_5 m8_6 m8_7 m8_8 m8_9 m8_10 m8_11 v31 v32 v33 v34 v35 v36 v37 v38 v39 v40 v41 v42)))
theorem f5_aiirrzai10rzi_j5_ok (k:Nat) (x2:Int) (x73:Bool) (m3 m3_1:Int) (m3_2:List T65) (m3_3:List T39) (m4 m4_1 m4_2 m4_3 m4_4 m4_5 m4_6 m4_7 m4_8 m4_9:Int) (m4_10:List Int) (m7 m7_1:Int) (m7_2:List T65) (m23:List T39) (m8 m8_1 m8_2 m8_3 m8_4 m8_5 m8_6 m8_7 m8_8 m8_9 m8_10:Int) (m8_11:List Int) (r:R5_aiirrzai10rzi) (hF:f5_aiirrzai10rzi_j5 k x2 x73 m3 m3_1 m3_2 m3_3 m4 m4_1 m4_2 m4_3 m4_4 m4_5 m4_6 m4_7 m4_8 m4_9 m4_10 m7 m7_1 m7_2 m23 m8 m8_1 m8_2 m8_3 m8_4 m8_5 m8_6 m8_7 m8_8 m8_9 m8_10 m8_11 = some r) : finK Try.prog Try.f5 0 (EX 5 k (nav B5 [2,2,2,2,2,2,2]) (⟨116,[(2,.p (.int .i64 x2)),(3,.ptr 3 0),(4,.ptr 4 0),(7,.ptr 7 0),(8,.ptr 8 0),(73,.p (.bool x73))],[(3,.box 26 [.p (.int .i64 m3),.p (.int .u32 m3_1),.sl 4 (rowsOf encT65 m3_2),.sl 11 (rowsOf encT39 m3_3)]),(4,.box 39 [.p (.int .i64 m4),.p (.int .i64 m4_1),.p (.int .u32 m4_2),.p (.int .i64 m4_3),.p (.int .i64 m4_4),.p (.int .i64 m4_5),.p (.int .i64 m4_6),.p (.int .i64 m4_7),.p (.int .i64 m4_8),.p (.int .i64 m4_9),.sl 1 (rowsOf (encI .u8) m4_10)]),(7,.box 26 [.p (.int .i64 m7),.p (.int .u32 m7_1),.sl 4 (rowsOf encT65 m7_2),.own 23]),(23,.row true 11 39 (rowsOf encT39 m23)),(8,.box 48 [.p (.int .i64 m8),.p (.int .i64 m8_1),.p (.int .i64 m8_2),.p (.int .u32 m8_3),.p (.int .i64 m8_4),.p (.int .i64 m8_5),.p (.int .i64 m8_6),.p (.int .i64 m8_7),.p (.int .i64 m8_8),.p (.int .i64 m8_9),.p (.int .i64 m8_10),.sl 1 (rowsOf (encI .u8) m8_11)])]⟩ : St)) = some r.st := by
 unfold f5_aiirrzai10rzi_j5 at hF
 simp (maxSteps:=999999) (disch:=first|exact D (by decide)|exact K (by kernel_rfl)) only [E,EE,↓reduceIte,simprocAttr,xk B5 [2,2,2,2,2,2,2] .sq rfl,rg B5 [1,2,2,2,2,2,2,2] 12 false rfl,hr_5_12,t_26,t_39,callStep,CL,gv,List.contains]
 obtain ⟨o1,h2,hF⟩ := bs hF
 have hc3 := f18_aiirrzai10rzi_ok k m7 m7_1 m7_2 m23 m4 m4_1 m4_2 m4_3 m4_4 m4_5 m4_6 m4_7 m4_8 m4_9 m4_10 x2 _ h2
 cases o1 with
 | o0 v4 v5 v6 v7 v8 v9 v10 v11 v12 v13 v14 v15 v16 v17 v18 v19 v20 =>
  (try dsimp only at hF)
  (try simp only [NM,EE,R18_aiirrzai10rzi.st] at hc3)
  simp (maxSteps:=999999) (disch:=first|exact D (by decide)|exact K (by kernel_rfl)) only [E,EE,↓reduceIte,simprocAttr,t_26,t_48,xk B5 [2,2,2,2,2,2,2,2] .sq rfl,xk B5 [1,2,2,2,2,2,2,2,2] .sq rfl,rg B5 [1,1,2,2,2,2,2,2,2,2] 13 false rfl,hr_5_13,fieldAddrV,t_3,hc3]
  rcases cond_some hF with ⟨h21,hF⟩ | ⟨h21,hF⟩
  ·simp (maxSteps:=999999) (disch:=first|exact D (by decide)|exact K (by kernel_rfl)) only [E,EE,↓reduceIte,simprocAttr,xk B5 [2,1,2,2,2,2,2,2,2,2] (.cd 94) rfl,xk B5 [2,2,1,2,2,2,2,2,2,2,2] .sq rfl,rg B5 [1,2,2,1,2,2,2,2,2,2,2,2] 14 false rfl,hr_5_14,hc3,h21]
   rcases cond_some hF with ⟨h22,hF⟩ | ⟨h22,hF⟩
   ·cases hF
    simp (maxSteps:=999999) (disch:=first|exact D (by decide)|exact K (by kernel_rfl)) only [E,EE,↓reduceIte,simprocAttr,fieldAddrV,t_48,t_3,xk B5 [2,2,2,1,2,2,2,2,2,2,2,2] .rt rfl,finK_norm,finK_ret,fin5,R5_aiirrzai10rzi.st,hc3,h21,h22]
   ·cases hF
    simp (maxSteps:=999999) (disch:=first|exact D (by decide)|exact K (by kernel_rfl)) only [E,EE,↓reduceIte,simprocAttr,xk B5 [2,2,2,1,2,2,2,2,2,2,2,2] .rt rfl,finK_norm,finK_ret,fin5,R5_aiirrzai10rzi.st,hc3,h21,h22]
  ·simp (maxSteps:=999999) (disch:=first|exact D (by decide)|exact K (by kernel_rfl)) only [E,EE,↓reduceIte,simprocAttr,fieldAddrV,t_48,t_3,hc3,h21]
   rcases cond_some hF with ⟨h23,hF⟩ | ⟨h23,hF⟩
   ·simp (maxSteps:=999999) (disch:=first|exact D (by decide)|exact K (by kernel_rfl)) only [E,EE,↓reduceIte,simprocAttr,xk B5 [2,1,2,2,2,2,2,2,2,2] (.cd 94) rfl,xk B5 [2,2,1,2,2,2,2,2,2,2,2] .sq rfl,rg B5 [1,2,2,1,2,2,2,2,2,2,2,2] 14 false rfl,hr_5_14,hc3,h21,h23]
    rcases cond_some hF with ⟨h24,hF⟩ | ⟨h24,hF⟩
    ·cases hF
     simp (maxSteps:=999999) (disch:=first|exact D (by decide)|exact K (by kernel_rfl)) only [E,EE,↓reduceIte,simprocAttr,fieldAddrV,t_48,t_3,xk B5 [2,2,2,1,2,2,2,2,2,2,2,2] .rt rfl,finK_norm,finK_ret,fin5,R5_aiirrzai10rzi.st,hc3,h21,h23,h24]
    ·cases hF
     simp (maxSteps:=999999) (disch:=first|exact D (by decide)|exact K (by kernel_rfl)) only [E,EE,↓reduceIte,simprocAttr,xk B5 [2,2,2,1,2,2,2,2,2,2,2,2] .rt rfl,finK_norm,finK_ret,fin5,R5_aiirrzai10rzi.st,hc3,h21,h23,h24]
   ·simp (maxSteps:=999999) (disch:=first|exact D (by decide)|exact K (by kernel_rfl)) only [E,EE,↓reduceIte,simprocAttr,fieldAddrV,t_48,t_3,xk B5 [2,1,2,2,2,2,2,2,2,2] (.cd 94) rfl,hc3,h21,h23]
    rcases cond_some hF with ⟨h25,hF⟩ | ⟨h25,hF⟩
    ·simp (maxSteps:=999999) (disch:=first|exact D (by decide)|exact K (by kernel_rfl)) only [E,EE,↓reduceIte,simprocAttr,xk B5 [2,2,1,2,2,2,2,2,2,2,2] .sq rfl,rg B5 [1,2,2,1,2,2,2,2,2,2,2,2] 14 false rfl,hr_5_14,hc3,h21,h23,h25]
     rcases cond_some hF with ⟨h26,hF⟩ | ⟨h26,hF⟩
     ·cases hF
      simp (maxSteps:=999999) (disch:=first|exact D (by decide)|exact K (by kernel_rfl)) only [E,EE,↓reduceIte,simprocAttr,fieldAddrV,t_48,t_3,xk B5 [2,2,2,1,2,2,2,2,2,2,2,2] .rt rfl,finK_norm,finK_ret,fin5,R5_aiirrzai10rzi.st,hc3,h21,h23,h25,h26]
     ·cases hF
      simp (maxSteps:=999999) (disch:=first|exact D (by decide)|exact K (by kernel_rfl)) only [E,EE,↓reduceIte,simprocAttr,xk B5 [2,2,2,1,2,2,2,2,2,2,2,2] .rt rfl,finK_norm,finK_ret,fin5,R5_aiirrzai10rzi.st,hc3,h21,h23,h25,h26]
    ·have hJ := f5_aiirrzai10rzi_j6_ok k v19 false m3 m3_1 m3_2 m3_3 m7 m7_1 m7_2 m23 m8 m8_1 m8_2 m8_3 m8_4 m8_5 m8_6 m8_7 m8_8 m8_9 m8_10 m8_11 v7 v8 v9 v10 v11 v12 v13 v14 v15 v16 v17 v18 _ hF
     simp (maxSteps:=999999) (disch:=first|exact D (by decide)|exact K (by kernel_rfl)) only [E,EE,↓reduceIte,simprocAttr,xk B5 [3,2,1,2,2,2,2,2,2,2,2] .sk rfl,hc3,h21,h23,h25]
     try simp only [NM,EE] at hJ
     exact hJ
 | o1 v27 v28 v29 v30 v31 v32 v33 v34 v35 v36 v37 v38 v39 v40 v41 v42 v43 =>
  (try dsimp only at hF)
  (try simp only [NM,EE,R18_aiirrzai10rzi.st] at hc3)
  simp (maxSteps:=999999) (disch:=first|exact D (by decide)|exact K (by kernel_rfl)) only [E,EE,↓reduceIte,simprocAttr,t_26,t_48,xk B5 [2,2,2,2,2,2,2,2] .sq rfl,xk B5 [1,2,2,2,2,2,2,2,2] .sq rfl,rg B5 [1,1,2,2,2,2,2,2,2,2] 13 false rfl,hr_5_13,fieldAddrV,t_3,hc3]
  rcases cond_some hF with ⟨h44,hF⟩ | ⟨h44,hF⟩
  ·simp (maxSteps:=999999) (disch:=first|exact D (by decide)|exact K (by kernel_rfl)) only [E,EE,↓reduceIte,simprocAttr,xk B5 [2,1,2,2,2,2,2,2,2,2] (.cd 94) rfl,xk B5 [2,2,1,2,2,2,2,2,2,2,2] .sq rfl,rg B5 [1,2,2,1,2,2,2,2,2,2,2,2] 14 false rfl,hr_5_14,hc3,h44]
   rcases cond_some hF with ⟨h45,hF⟩ | ⟨h45,hF⟩
   ·cases hF
    simp (maxSteps:=999999) (disch:=first|exact D (by decide)|exact K (by kernel_rfl)) only [E,EE,↓reduceIte,simprocAttr,fieldAddrV,t_48,t_3,xk B5 [2,2,2,1,2,2,2,2,2,2,2,2] .rt rfl,finK_norm,finK_ret,fin5,R5_aiirrzai10rzi.st,hc3,h44,h45]
   ·cases hF
    simp (maxSteps:=999999) (disch:=first|exact D (by decide)|exact K (by kernel_rfl)) only [E,EE,↓reduceIte,simprocAttr,xk B5 [2,2,2,1,2,2,2,2,2,2,2,2] .rt rfl,finK_norm,finK_ret,fin5,R5_aiirrzai10rzi.st,hc3,h44,h45]
  ·simp (maxSteps:=999999) (disch:=first|exact D (by decide)|exact K (by kernel_rfl)) only [E,EE,↓reduceIte,simprocAttr,fieldAddrV,t_48,t_3,hc3,h44]
   rcases cond_some hF with ⟨h46,hF⟩ | ⟨h46,hF⟩
   ·simp (maxSteps:=999999) (disch:=first|exact D (by decide)|exact K (by kernel_rfl)) only [E,EE,↓reduceIte,simprocAttr,xk B5 [2,1,2,2,2,2,2,2,2,2] (.cd 94) rfl,xk B5 [2,2,1,2,2,2,2,2,2,2,2] .sq rfl,rg B5 [1,2,2,1,2,2,2,2,2,2,2,2] 14 false rfl,hr_5_14,hc3,h44,h46]
    rcases cond_some hF with ⟨h47,hF⟩ | ⟨h47,hF⟩
    ·cases hF
     simp (maxSteps:=999999) (disch:=first|exact D (by decide)|exact K (by kernel_rfl)) only [E,EE,↓reduceIte,simprocAttr,fieldAddrV,t_48,t_3,xk B5 [2,2,2,1,2,2,2,2,2,2,2,2] .rt rfl,finK_norm,finK_ret,fin5,R5_aiirrzai10rzi.st,hc3,h44,h46,h47]
    ·cases hF
     simp (maxSteps:=999999) (disch:=first|exact D (by decide)|exact K (by kernel_rfl)) only [E,EE,↓reduceIte,simprocAttr,xk B5 [2,2,2,1,2,2,2,2,2,2,2,2] .rt rfl,finK_norm,finK_ret,fin5,R5_aiirrzai10rzi.st,hc3,h44,h46,h47]
   ·simp (maxSteps:=999999) (disch:=first|exact D (by decide)|exact K (by kernel_rfl)) only [E,EE,↓reduceIte,simprocAttr,fieldAddrV,t_48,t_3,xk B5 [2,1,2,2,2,2,2,2,2,2] (.cd 94) rfl,hc3,h44,h46]
    rcases cond_some hF with ⟨h48,hF⟩ | ⟨h48,hF⟩
    ·simp (maxSteps:=999999) (disch:=first|exact D (by decide)|exact K (by kernel_rfl)) only [E,EE,↓reduceIte,simprocAttr,xk B5 [2,2,1,2,2,2,2,2,2,2,2] .sq rfl,rg B5 [1,2,2,1,2,2,2,2,2,2,2,2] 14 false rfl,hr_5_14,hc3,h44,h46,h48]
     rcases cond_some hF with ⟨h49,hF⟩ | ⟨h49,hF⟩
     ·cases hF
      simp (maxSteps:=999999) (disch:=first|exact D (by decide)|exact K (by kernel_rfl)) only [E,EE,↓reduceIte,simprocAttr,fieldAddrV,t_48,t_3,xk B5 [2,2,2,1,2,2,2,2,2,2,2,2] .rt rfl,finK_norm,finK_ret,fin5,R5_aiirrzai10rzi.st,hc3,h44,h46,h48,h49]
     ·cases hF
      simp (maxSteps:=999999) (disch:=first|exact D (by decide)|exact K (by kernel_rfl)) only [E,EE,↓reduceIte,simprocAttr,xk B5 [2,2,2,1,2,2,2,2,2,2,2,2] .rt rfl,finK_norm,finK_ret,fin5,R5_aiirrzai10rzi.st,hc3,h44,h46,h48,h49]
    ·have hJ := f5_aiirrzai10rzi_j6_ok k v43 false m3 m3_1 m3_2 m3_3 m7 m7_1 m7_2 m23 m8 m8_1 m8_2 m8_3 m8_4 m8_5 m8_6 m8_7 m8_8 m8_9 m8_10 m8_11 v31 v32 v33 v34 v35 v36 v37 v38 v39 v40 v41 v42 _ hF
     simp (maxSteps:=999999) (disch:=first|exact D (by decide)|exact K (by kernel_rfl)) only [E,EE,↓reduceIte,simprocAttr,xk B5 [3,2,1,2,2,2,2,2,2,2,2] .sk rfl,hc3,h44,h46,h48]
     try simp only [NM,EE] at hJ
     exact hJ
noncomputable def f5_aiirrzai10rzi_j4 (k:Nat) (x2:Int) (x44:Bool) (m3 m3_1:Int) (m3_2:List T65) (m3_3:List T39) (m4 m4_1 m4_2 m4_3 m4_4 m4_5 m4_6 m4_7 m4_8 m4_9:Int) (m4_10:List Int) (m7 m7_1:Int) (m7_2:List T65) (m23:List T39) (m8 m8_1 m8_2 m8_3 m8_4 m8_5 m8_6 m8_7 m8_8 m8_9 m8_10:Int) (m8_11:List Int) : Option R5_aiirrzai10rzi :=
 cond ((m8 == 6))
  (
   cond ((m8_7 != (IntKind.i64.wrap (m4_6 + (1:Int)))))
    (some (R5_aiirrzai10rzi.o0 false))
    (
     Option.bind (f20_rr k m8_11 m4_10) fun o3 =>
      match o3 with
      | .o0 v6 =>
       cond ((!v6))
        (some (R5_aiirrzai10rzi.o0 false))
        (
         cond ((m8_2 != m4_1))
          (some (R5_aiirrzai10rzi.o0 false))
          (f5_aiirrzai10rzi_j5 k x2 false m3 m3_1 m3_2 m3_3 m4 m4_1 m4_2 m4_3 m4_4 m4_5 m4_6 m4_7 m4_8 m4_9 m4_10 m7 m7_1 m7_2 m23 m8 m8_1 m8_2 m8_3 m8_4 m8_5 m8_6 m8_7 m8_8 m8_9 m8_10 m8_11))))
  (f5_aiirrzai10rzi_j5 k x2 false m3 m3_1 m3_2 m3_3 m4 m4_1 m4_2 m4_3 m4_4 m4_5 m4_6 m4_7 m4_8 m4_9 m4_10 m7 m7_1 m7_2 m23 m8 m8_1 m8_2 m8_3 m8_4 m8_5 m8_6 m8_7 m8_8 m8_9 m8_10 m8_11)
theorem f5_aiirrzai10rzi_j4_ok (k:Nat) (x2:Int) (x44:Bool) (m3 m3_1:Int) (m3_2:List T65) (m3_3:List T39) (m4 m4_1 m4_2 m4_3 m4_4 m4_5 m4_6 m4_7 m4_8 m4_9:Int) (m4_10:List Int) (m7 m7_1:Int) (m7_2:List T65) (m23:List T39) (m8 m8_1 m8_2 m8_3 m8_4 m8_5 m8_6 m8_7 m8_8 m8_9 m8_10:Int) (m8_11:List Int) (r:R5_aiirrzai10rzi) (hF:f5_aiirrzai10rzi_j4 k x2 x44 m3 m3_1 m3_2 m3_3 m4 m4_1 m4_2 m4_3 m4_4 m4_5 m4_6 m4_7 m4_8 m4_9 m4_10 m7 m7_1 m7_2 m23 m8 m8_1 m8_2 m8_3 m8_4 m8_5 m8_6 m8_7 m8_8 m8_9 m8_10 m8_11 = some r) : finK Try.prog Try.f5 0 (EX 5 k (nav B5 [2,2,2,2,2,2]) (⟨116,[(2,.p (.int .i64 x2)),(3,.ptr 3 0),(4,.ptr 4 0),(7,.ptr 7 0),(8,.ptr 8 0),(44,.p (.bool x44))],[(3,.box 26 [.p (.int .i64 m3),.p (.int .u32 m3_1),.sl 4 (rowsOf encT65 m3_2),.sl 11 (rowsOf encT39 m3_3)]),(4,.box 39 [.p (.int .i64 m4),.p (.int .i64 m4_1),.p (.int .u32 m4_2),.p (.int .i64 m4_3),.p (.int .i64 m4_4),.p (.int .i64 m4_5),.p (.int .i64 m4_6),.p (.int .i64 m4_7),.p (.int .i64 m4_8),.p (.int .i64 m4_9),.sl 1 (rowsOf (encI .u8) m4_10)]),(7,.box 26 [.p (.int .i64 m7),.p (.int .u32 m7_1),.sl 4 (rowsOf encT65 m7_2),.own 23]),(23,.row true 11 39 (rowsOf encT39 m23)),(8,.box 48 [.p (.int .i64 m8),.p (.int .i64 m8_1),.p (.int .i64 m8_2),.p (.int .u32 m8_3),.p (.int .i64 m8_4),.p (.int .i64 m8_5),.p (.int .i64 m8_6),.p (.int .i64 m8_7),.p (.int .i64 m8_8),.p (.int .i64 m8_9),.p (.int .i64 m8_10),.sl 1 (rowsOf (encI .u8) m8_11)])]⟩ : St)) = some r.st := by
 unfold f5_aiirrzai10rzi_j4 at hF
 simp (maxSteps:=999999) (disch:=first|exact D (by decide)|exact K (by kernel_rfl)) only [E,EE,↓reduceIte,simprocAttr,xk B5 [2,2,2,2,2,2] .sq rfl,xk B5 [1,2,2,2,2,2,2] .sq rfl,rg B5 [1,1,2,2,2,2,2,2] 10 false rfl,hr_5_10,fieldAddrV,t_48,t_3]
 rcases cond_some hF with ⟨h1,hF⟩ | ⟨h1,hF⟩
 ·simp (maxSteps:=999999) (disch:=first|exact D (by decide)|exact K (by kernel_rfl)) only [E,EE,↓reduceIte,simprocAttr,fieldAddrV,t_48,t_39,t_3,h1]
  rcases cond_some hF with ⟨h2,hF⟩ | ⟨h2,hF⟩
  ·cases hF
   simp (maxSteps:=999999) (disch:=first|exact D (by decide)|exact K (by kernel_rfl)) only [E,EE,↓reduceIte,simprocAttr,xk B5 [2,1,2,2,2,2,2,2] (.cd 73) rfl,xk B5 [2,2,1,2,2,2,2,2,2] .sq rfl,rg B5 [1,2,2,1,2,2,2,2,2,2] 11 false rfl,hr_5_11,xk B5 [2,2,2,1,2,2,2,2,2,2] .rt rfl,finK_norm,finK_ret,fin5,R5_aiirrzai10rzi.st,h1,h2]
  ·obtain ⟨o3,h4,hF⟩ := bs hF
   have hc5 := f20_rr_ok k m8_11 m4_10 _ h4
   cases o3 with
   | o0 v6 =>
    (try dsimp only at hF)
    (try simp only [NM,EE,R20_rr.st] at hc5)
    simp (maxSteps:=999999) (disch:=first|exact D (by decide)|exact K (by kernel_rfl)) only [E,EE,↓reduceIte,simprocAttr,fieldAddrV,t_48,t_39,t_29,callStep,CL,gv,List.contains,h1,h2,hc5]
    rcases cond_some hF with ⟨h7,hF⟩ | ⟨h7,hF⟩
    ·cases hF
     simp (maxSteps:=999999) (disch:=first|exact D (by decide)|exact K (by kernel_rfl)) only [E,EE,↓reduceIte,simprocAttr,xk B5 [2,1,2,2,2,2,2,2] (.cd 73) rfl,xk B5 [2,2,1,2,2,2,2,2,2] .sq rfl,rg B5 [1,2,2,1,2,2,2,2,2,2] 11 false rfl,hr_5_11,xk B5 [2,2,2,1,2,2,2,2,2,2] .rt rfl,finK_norm,finK_ret,fin5,R5_aiirrzai10rzi.st,h1,h2,hc5,h7]
    ·simp (maxSteps:=999999) (disch:=first|exact D (by decide)|exact K (by kernel_rfl)) only [E,EE,↓reduceIte,simprocAttr,fieldAddrV,t_48,t_39,t_3,xk B5 [2,1,2,2,2,2,2,2] (.cd 73) rfl,h1,h2,hc5,h7]
     rcases cond_some hF with ⟨h8,hF⟩ | ⟨h8,hF⟩
     ·cases hF
      simp (maxSteps:=999999) (disch:=first|exact D (by decide)|exact K (by kernel_rfl)) only [E,EE,↓reduceIte,simprocAttr,xk B5 [2,2,1,2,2,2,2,2,2] .sq rfl,rg B5 [1,2,2,1,2,2,2,2,2,2] 11 false rfl,hr_5_11,xk B5 [2,2,2,1,2,2,2,2,2,2] .rt rfl,finK_norm,finK_ret,fin5,R5_aiirrzai10rzi.st,h1,h2,hc5,h7,h8]
     ·have hJ := f5_aiirrzai10rzi_j5_ok k x2 false m3 m3_1 m3_2 m3_3 m4 m4_1 m4_2 m4_3 m4_4 m4_5 m4_6 m4_7 m4_8 m4_9 m4_10 m7 m7_1 m7_2 m23 m8 m8_1 m8_2 m8_3 m8_4 m8_5 m8_6 m8_7 m8_8 m8_9 m8_10 m8_11 _ hF
      simp (maxSteps:=999999) (disch:=first|exact D (by decide)|exact K (by kernel_rfl)) only [E,EE,↓reduceIte,simprocAttr,xk B5 [3,2,1,2,2,2,2,2,2] .sk rfl,h1,h2,hc5,h7,h8]
      try simp only [NM,EE] at hJ
      exact hJ
 ·have hJ := f5_aiirrzai10rzi_j5_ok k x2 false m3 m3_1 m3_2 m3_3 m4 m4_1 m4_2 m4_3 m4_4 m4_5 m4_6 m4_7 m4_8 m4_9 m4_10 m7 m7_1 m7_2 m23 m8 m8_1 m8_2 m8_3 m8_4 m8_5 m8_6 m8_7 m8_8 m8_9 m8_10 m8_11 _ hF
  simp (maxSteps:=999999) (disch:=first|exact D (by decide)|exact K (by kernel_rfl)) only [E,EE,↓reduceIte,simprocAttr,xk B5 [2,1,2,2,2,2,2,2] (.cd 73) rfl,xk B5 [3,2,1,2,2,2,2,2,2] .sk rfl,h1]
  try simp only [NM,EE] at hJ
  exact hJ
noncomputable def f5_aiirrzai10rzi_j3 (k:Nat) (x2:Int) (x28:Bool) (m3 m3_1:Int) (m3_2:List T65) (m3_3:List T39) (m4 m4_1 m4_2 m4_3 m4_4 m4_5 m4_6 m4_7 m4_8 m4_9:Int) (m4_10:List Int) (m7 m7_1:Int) (m7_2:List T65) (m23:List T39) (m8 m8_1 m8_2 m8_3 m8_4 m8_5 m8_6 m8_7 m8_8 m8_9 m8_10:Int) (m8_11:List Int) : Option R5_aiirrzai10rzi :=
 Option.bind (f19_aiirrz k m7 m7_1 m7_2 m23) fun o1 =>
  match o1 with
  | .o0 v4 =>
   cond ((v4 != 0))
    (some (R5_aiirrzai10rzi.o0 false))
    (
     cond ((decide (m8 < 1)))
      (some (R5_aiirrzai10rzi.o0 false))
      (
       cond ((decide (m8 > 9)))
        (some (R5_aiirrzai10rzi.o0 false))
        (f5_aiirrzai10rzi_j4 k x2 false m3 m3_1 m3_2 m3_3 m4 m4_1 m4_2 m4_3 m4_4 m4_5 m4_6 m4_7 m4_8 m4_9 m4_10 m7 m7_1 m7_2 m23 m8 m8_1 m8_2 m8_3 m8_4 m8_5 m8_6 m8_7 m8_8 m8_9 m8_10 m8_11)))
theorem f5_aiirrzai10rzi_j3_ok (k:Nat) (x2:Int) (x28:Bool) (m3 m3_1:Int) (m3_2:List T65) (m3_3:List T39) (m4 m4_1 m4_2 m4_3 m4_4 m4_5 m4_6 m4_7 m4_8 m4_9:Int) (m4_10:List Int) (m7 m7_1:Int) (m7_2:List T65) (m23:List T39) (m8 m8_1 m8_2 m8_3 m8_4 m8_5 m8_6 m8_7 m8_8 m8_9 m8_10:Int) (m8_11:List Int) (r:R5_aiirrzai10rzi) (hF:f5_aiirrzai10rzi_j3 k x2 x28 m3 m3_1 m3_2 m3_3 m4 m4_1 m4_2 m4_3 m4_4 m4_5 m4_6 m4_7 m4_8 m4_9 m4_10 m7 m7_1 m7_2 m23 m8 m8_1 m8_2 m8_3 m8_4 m8_5 m8_6 m8_7 m8_8 m8_9 m8_10 m8_11 = some r) : finK Try.prog Try.f5 0 (EX 5 k (nav B5 [2,2,2,2,2]) (⟨116,[(2,.p (.int .i64 x2)),(3,.ptr 3 0),(4,.ptr 4 0),(7,.ptr 7 0),(8,.ptr 8 0),(28,.p (.bool x28))],[(3,.box 26 [.p (.int .i64 m3),.p (.int .u32 m3_1),.sl 4 (rowsOf encT65 m3_2),.sl 11 (rowsOf encT39 m3_3)]),(4,.box 39 [.p (.int .i64 m4),.p (.int .i64 m4_1),.p (.int .u32 m4_2),.p (.int .i64 m4_3),.p (.int .i64 m4_4),.p (.int .i64 m4_5),.p (.int .i64 m4_6),.p (.int .i64 m4_7),.p (.int .i64 m4_8),.p (.int .i64 m4_9),.sl 1 (rowsOf (encI .u8) m4_10)]),(7,.box 26 [.p (.int .i64 m7),.p (.int .u32 m7_1),.sl 4 (rowsOf encT65 m7_2),.own 23]),(23,.row true 11 39 (rowsOf encT39 m23)),(8,.box 48 [.p (.int .i64 m8),.p (.int .i64 m8_1),.p (.int .i64 m8_2),.p (.int .u32 m8_3),.p (.int .i64 m8_4),.p (.int .i64 m8_5),.p (.int .i64 m8_6),.p (.int .i64 m8_7),.p (.int .i64 m8_8),.p (.int .i64 m8_9),.p (.int .i64 m8_10),.sl 1 (rowsOf (encI .u8) m8_11)])]⟩ : St)) = some r.st := by
 unfold f5_aiirrzai10rzi_j3 at hF
 obtain ⟨o1,h2,hF⟩ := bs hF
 have hc3 := f19_aiirrz_ok k m7 m7_1 m7_2 m23 _ h2
 cases o1 with
 | o0 v4 =>
  (try dsimp only at hF)
  (try simp only [NM,EE,R19_aiirrz.st] at hc3)
  simp (maxSteps:=999999) (disch:=first|exact D (by decide)|exact K (by kernel_rfl)) only [E,EE,↓reduceIte,simprocAttr,xk B5 [2,2,2,2,2] .sq rfl,xk B5 [1,2,2,2,2,2] .sq rfl,rg B5 [1,1,2,2,2,2,2] 8 false rfl,hr_5_8,t_26,callStep,CL,gv,List.contains,hc3]
  rcases cond_some hF with ⟨h5,hF⟩ | ⟨h5,hF⟩
  ·cases hF
   simp (maxSteps:=999999) (disch:=first|exact D (by decide)|exact K (by kernel_rfl)) only [E,EE,↓reduceIte,simprocAttr,xk B5 [2,1,2,2,2,2,2] (.cd 44) rfl,xk B5 [2,2,1,2,2,2,2,2] .sq rfl,rg B5 [1,2,2,1,2,2,2,2,2] 9 false rfl,hr_5_9,xk B5 [2,2,2,1,2,2,2,2,2] .rt rfl,finK_norm,finK_ret,fin5,R5_aiirrzai10rzi.st,hc3,h5]
  ·simp (maxSteps:=999999) (disch:=first|exact D (by decide)|exact K (by kernel_rfl)) only [E,EE,↓reduceIte,simprocAttr,fieldAddrV,t_48,t_3,hc3,h5]
   rcases cond_some hF with ⟨h6,hF⟩ | ⟨h6,hF⟩
   ·cases hF
    simp (maxSteps:=999999) (disch:=first|exact D (by decide)|exact K (by kernel_rfl)) only [E,EE,↓reduceIte,simprocAttr,xk B5 [2,1,2,2,2,2,2] (.cd 44) rfl,xk B5 [2,2,1,2,2,2,2,2] .sq rfl,rg B5 [1,2,2,1,2,2,2,2,2] 9 false rfl,hr_5_9,xk B5 [2,2,2,1,2,2,2,2,2] .rt rfl,finK_norm,finK_ret,fin5,R5_aiirrzai10rzi.st,hc3,h5,h6]
   ·simp (maxSteps:=999999) (disch:=first|exact D (by decide)|exact K (by kernel_rfl)) only [E,EE,↓reduceIte,simprocAttr,fieldAddrV,t_48,t_3,xk B5 [2,1,2,2,2,2,2] (.cd 44) rfl,hc3,h5,h6]
    rcases cond_some hF with ⟨h7,hF⟩ | ⟨h7,hF⟩
    ·cases hF
     simp (maxSteps:=999999) (disch:=first|exact D (by decide)|exact K (by kernel_rfl)) only [E,EE,↓reduceIte,simprocAttr,xk B5 [2,2,1,2,2,2,2,2] .sq rfl,rg B5 [1,2,2,1,2,2,2,2,2] 9 false rfl,hr_5_9,xk B5 [2,2,2,1,2,2,2,2,2] .rt rfl,finK_norm,finK_ret,fin5,R5_aiirrzai10rzi.st,hc3,h5,h6,h7]
    ·have hJ := f5_aiirrzai10rzi_j4_ok k x2 false m3 m3_1 m3_2 m3_3 m4 m4_1 m4_2 m4_3 m4_4 m4_5 m4_6 m4_7 m4_8 m4_9 m4_10 m7 m7_1 m7_2 m23 m8 m8_1 m8_2 m8_3 m8_4 m8_5 m8_6 m8_7 m8_8 m8_9 m8_10 m8_11 _ hF
     simp (maxSteps:=999999) (disch:=first|exact D (by decide)|exact K (by kernel_rfl)) only [E,EE,↓reduceIte,simprocAttr,xk B5 [3,2,1,2,2,2,2,2] .sk rfl,hc3,h5,h6,h7]
     try simp only [NM,EE] at hJ
     exact hJ
noncomputable def f5_aiirrzai10rzi_j10 (k:Nat) (x12:Int) (x94:Bool) (m3 m3_1:Int) (m3_2:List T65) (m3_3:List T39) (m7 m7_1:Int) (m7_2:List T65) (m7_3:List T39) (m8 m8_1 m8_2 m8_3 m8_4 m8_5 m8_6 m8_7 m8_8 m8_9 m8_10:Int) (m8_11:List Int) (m11 m11_1 m11_2 m11_3 m11_4 m11_5 m11_6 m11_7 m11_8 m11_9 m11_10:Int) (m11_11:List Int) : Option R5_aiirrzai10rzi :=
 cond ((x12 == 0))
  (
   cond ((m11 == m8))
    (
     Option.bind (f21_aiirrzaiirrz k m3 m3_1 m3_2 m3_3 m7 m7_1 m7_2 m7_3) fun o3 =>
      match o3 with
      | .o0 v6 =>
       some (R5_aiirrzai10rzi.o0 v6))
    (some (R5_aiirrzai10rzi.o0 false)))
  (some (R5_aiirrzai10rzi.o0 false))
theorem f5_aiirrzai10rzi_j10_ok (k:Nat) (x12:Int) (x94:Bool) (m3 m3_1:Int) (m3_2:List T65) (m3_3:List T39) (m7 m7_1:Int) (m7_2:List T65) (m7_3:List T39) (m8 m8_1 m8_2 m8_3 m8_4 m8_5 m8_6 m8_7 m8_8 m8_9 m8_10:Int) (m8_11:List Int) (m11 m11_1 m11_2 m11_3 m11_4 m11_5 m11_6 m11_7 m11_8 m11_9 m11_10:Int) (m11_11:List Int) (r:R5_aiirrzai10rzi) (hF:f5_aiirrzai10rzi_j10 k x12 x94 m3 m3_1 m3_2 m3_3 m7 m7_1 m7_2 m7_3 m8 m8_1 m8_2 m8_3 m8_4 m8_5 m8_6 m8_7 m8_8 m8_9 m8_10 m8_11 m11 m11_1 m11_2 m11_3 m11_4 m11_5 m11_6 m11_7 m11_8 m11_9 m11_10 m11_11 = some r) : finK Try.prog Try.f5 0 (EX 5 k (nav B5 [2,2,2,2,2,2,2,2,2]) (⟨116,[(3,.ptr 3 0),(7,.ptr 7 0),(8,.ptr 8 0),(11,.ptr 11 0),(12,.p (.int .i64 x12)),(94,.p (.bool x94))],[(3,.box 26 [.p (.int .i64 m3),.p (.int .u32 m3_1),.sl 4 (rowsOf encT65 m3_2),.sl 11 (rowsOf encT39 m3_3)]),(7,.box 26 [.p (.int .i64 m7),.p (.int .u32 m7_1),.sl 4 (rowsOf encT65 m7_2),.sl 11 (rowsOf encT39 m7_3)]),(8,.box 48 [.p (.int .i64 m8),.p (.int .i64 m8_1),.p (.int .i64 m8_2),.p (.int .u32 m8_3),.p (.int .i64 m8_4),.p (.int .i64 m8_5),.p (.int .i64 m8_6),.p (.int .i64 m8_7),.p (.int .i64 m8_8),.p (.int .i64 m8_9),.p (.int .i64 m8_10),.sl 1 (rowsOf (encI .u8) m8_11)]),(11,.box 48 [.p (.int .i64 m11),.p (.int .i64 m11_1),.p (.int .i64 m11_2),.p (.int .u32 m11_3),.p (.int .i64 m11_4),.p (.int .i64 m11_5),.p (.int .i64 m11_6),.p (.int .i64 m11_7),.p (.int .i64 m11_8),.p (.int .i64 m11_9),.p (.int .i64 m11_10),.sl 1 (rowsOf (encI .u8) m11_11)])]⟩ : St)) = some r.st := by
 unfold f5_aiirrzai10rzi_j10 at hF
 simp (maxSteps:=999999) (disch:=first|exact D (by decide)|exact K (by kernel_rfl)) only [E,EE,↓reduceIte,simprocAttr,xk B5 [2,2,2,2,2,2,2,2,2] .sq rfl,rg B5 [1,2,2,2,2,2,2,2,2,2] 15 false rfl,hr_5_15]
 rcases cond_some hF with ⟨h1,hF⟩ | ⟨h1,hF⟩
 ·simp (maxSteps:=999999) (disch:=first|exact D (by decide)|exact K (by kernel_rfl)) only [E,EE,↓reduceIte,simprocAttr,fieldAddrV,t_48,t_3,h1]
  rcases cond_some hF with ⟨h2,hF⟩ | ⟨h2,hF⟩
  ·obtain ⟨o3,h4,hF⟩ := bs hF
   have hc5 := f21_aiirrzaiirrz_ok k m3 m3_1 m3_2 m3_3 m7 m7_1 m7_2 m7_3 _ h4
   cases o3 with
   | o0 v6 =>
    (try dsimp only at hF)
    (try simp only [NM,EE,R21_aiirrzaiirrz.st] at hc5)
    cases hF
    simp (maxSteps:=999999) (disch:=first|exact D (by decide)|exact K (by kernel_rfl)) only [E,EE,↓reduceIte,simprocAttr,t_26,callStep,CL,gv,List.contains,xk B5 [2,2,2,2,2,2,2,2,2,2] .rt rfl,finK_norm,finK_ret,fin5,R5_aiirrzai10rzi.st,h1,h2,hc5]
  ·cases hF
   simp (maxSteps:=999999) (disch:=first|exact D (by decide)|exact K (by kernel_rfl)) only [E,EE,↓reduceIte,simprocAttr,xk B5 [2,2,2,2,2,2,2,2,2,2] .rt rfl,finK_norm,finK_ret,fin5,R5_aiirrzai10rzi.st,h1,h2]
 ·cases hF
  simp (maxSteps:=999999) (disch:=first|exact D (by decide)|exact K (by kernel_rfl)) only [E,EE,↓reduceIte,simprocAttr,xk B5 [2,2,2,2,2,2,2,2,2,2] .rt rfl,finK_norm,finK_ret,fin5,R5_aiirrzai10rzi.st,h1]
noncomputable def f5_aiirrzai10rzi_j9 (k:Nat) (x2:Int) (x73:Bool) (m3 m3_1:Int) (m3_2:List T65) (m3_3:List T39) (m4 m4_1 m4_2 m4_3 m4_4 m4_5 m4_6 m4_7 m4_8 m4_9:Int) (m4_10:List Int) (m7 m7_1:Int) (m7_2:List T65) (m7_3:List T39) (m8 m8_1 m8_2 m8_3 m8_4 m8_5 m8_6 m8_7 m8_8 m8_9 m8_10:Int) (m8_11:List Int) : Option R5_aiirrzai10rzi :=
 Option.bind (f18_aiirrzai10rzi k m7 m7_1 m7_2 m7_3 m4 m4_1 m4_2 m4_3 m4_4 m4_5 m4_6 m4_7 m4_8 m4_9 m4_10 x2) fun o1 =>
  match o1 with
  | .o0 v4 v5 v6 v7 v8 v9 v10 v11 v12 v13 v14 v15 v16 v17 v18 v19 v20 =>
   cond ((m8 == 6))
    (
     cond ((v19 == 0))
      (some (R5_aiirrzai10rzi.o0 (v7 == 3)))
      (some (R5_aiirrzai10rzi.o0 false)))
    (
     cond ((m8 == 8))
      (
       cond ((v19 == 0))
        (some (R5_aiirrzai10rzi.o0 (v7 == 3)))
        (some (R5_aiirrzai10rzi.o0 false)))
      (
       cond ((m8 == 9))
        (
         cond ((v19 == 0))
          (some (R5_aiirrzai10rzi.o0 (v7 == 3)))
          (some (R5_aiirrzai10rzi.o0 false)))
        (f5_aiirrzai10rzi_j10 k v19 false m3 m3_1 m3_2 m3_3 m7 m7_1 m7_2 m7_3 m8 m8_1 m8_2 m8_3 m8_4 m8_5 m8_6 m8_7 m8_8 m8_9 m8_10 m8_11 v7 v8 v9 v10 v11 v12 v13 v14 v15 v16 v17 v18)))
  | .o1 v27 v28 v29 v30 v31 v32 v33 v34 v35 v36 v37 v38 v39 v40 v41 v42 v43 =>
   cond ((m8 == 6))
    (
     cond ((v43 == 0))
      (some (R5_aiirrzai10rzi.o0 (v31 == 3)))
      (some (R5_aiirrzai10rzi.o0 false)))
    (
     cond ((m8 == 8))
      (
       cond ((v43 == 0))
        (some (R5_aiirrzai10rzi.o0 (v31 == 3)))
        (some (R5_aiirrzai10rzi.o0 false)))
      (
       cond ((m8 == 9))
        (
         cond ((v43 == 0))
          (some (R5_aiirrzai10rzi.o0 (v31 == 3)))
          (some (R5_aiirrzai10rzi.o0 false)))
        (f5_aiirrzai10rzi_j10 k v43 false m3 m3_1 m3_2 m3_3 m7 m7_1 m7_2 m7_3 m8 m8_1 m8_2 m8_3 m8_4 m8_5 m8_6 m8_7 m8_8 m8_9 m8_10 m8_11 v31 v32 v33 v34 v35 v36 v37 v38 v39 v40 v41 v42)))
theorem f5_aiirrzai10rzi_j9_ok (k:Nat) (x2:Int) (x73:Bool) (m3 m3_1:Int) (m3_2:List T65) (m3_3:List T39) (m4 m4_1 m4_2 m4_3 m4_4 m4_5 m4_6 m4_7 m4_8 m4_9:Int) (m4_10:List Int) (m7 m7_1:Int) (m7_2:List T65) (m7_3:List T39) (m8 m8_1 m8_2 m8_3 m8_4 m8_5 m8_6 m8_7 m8_8 m8_9 m8_10:Int) (m8_11:List Int) (r:R5_aiirrzai10rzi) (hF:f5_aiirrzai10rzi_j9 k x2 x73 m3 m3_1 m3_2 m3_3 m4 m4_1 m4_2 m4_3 m4_4 m4_5 m4_6 m4_7 m4_8 m4_9 m4_10 m7 m7_1 m7_2 m7_3 m8 m8_1 m8_2 m8_3 m8_4 m8_5 m8_6 m8_7 m8_8 m8_9 m8_10 m8_11 = some r) : finK Try.prog Try.f5 0 (EX 5 k (nav B5 [2,2,2,2,2,2,2]) (⟨116,[(2,.p (.int .i64 x2)),(3,.ptr 3 0),(4,.ptr 4 0),(7,.ptr 7 0),(8,.ptr 8 0),(73,.p (.bool x73))],[(3,.box 26 [.p (.int .i64 m3),.p (.int .u32 m3_1),.sl 4 (rowsOf encT65 m3_2),.sl 11 (rowsOf encT39 m3_3)]),(4,.box 39 [.p (.int .i64 m4),.p (.int .i64 m4_1),.p (.int .u32 m4_2),.p (.int .i64 m4_3),.p (.int .i64 m4_4),.p (.int .i64 m4_5),.p (.int .i64 m4_6),.p (.int .i64 m4_7),.p (.int .i64 m4_8),.p (.int .i64 m4_9),.sl 1 (rowsOf (encI .u8) m4_10)]),(7,.box 26 [.p (.int .i64 m7),.p (.int .u32 m7_1),.sl 4 (rowsOf encT65 m7_2),.sl 11 (rowsOf encT39 m7_3)]),(8,.box 48 [.p (.int .i64 m8),.p (.int .i64 m8_1),.p (.int .i64 m8_2),.p (.int .u32 m8_3),.p (.int .i64 m8_4),.p (.int .i64 m8_5),.p (.int .i64 m8_6),.p (.int .i64 m8_7),.p (.int .i64 m8_8),.p (.int .i64 m8_9),.p (.int .i64 m8_10),.sl 1 (rowsOf (encI .u8) m8_11)])]⟩ : St)) = some r.st := by
 unfold f5_aiirrzai10rzi_j9 at hF
 simp (maxSteps:=999999) (disch:=first|exact D (by decide)|exact K (by kernel_rfl)) only [E,EE,↓reduceIte,simprocAttr,xk B5 [2,2,2,2,2,2,2] .sq rfl,rg B5 [1,2,2,2,2,2,2,2] 12 false rfl,hr_5_12,t_26,t_39,callStep,CL,gv,List.contains]
 obtain ⟨o1,h2,hF⟩ := bs hF
 have hc3 := f18_aiirrzai10rzi_ok k m7 m7_1 m7_2 m7_3 m4 m4_1 m4_2 m4_3 m4_4 m4_5 m4_6 m4_7 m4_8 m4_9 m4_10 x2 _ h2
 cases o1 with
 | o0 v4 v5 v6 v7 v8 v9 v10 v11 v12 v13 v14 v15 v16 v17 v18 v19 v20 =>
  (try dsimp only at hF)
  (try simp only [NM,EE,R18_aiirrzai10rzi.st] at hc3)
  simp (maxSteps:=999999) (disch:=first|exact D (by decide)|exact K (by kernel_rfl)) only [E,EE,↓reduceIte,simprocAttr,t_26,t_48,xk B5 [2,2,2,2,2,2,2,2] .sq rfl,xk B5 [1,2,2,2,2,2,2,2,2] .sq rfl,rg B5 [1,1,2,2,2,2,2,2,2,2] 13 false rfl,hr_5_13,fieldAddrV,t_3,hc3]
  rcases cond_some hF with ⟨h21,hF⟩ | ⟨h21,hF⟩
  ·simp (maxSteps:=999999) (disch:=first|exact D (by decide)|exact K (by kernel_rfl)) only [E,EE,↓reduceIte,simprocAttr,xk B5 [2,1,2,2,2,2,2,2,2,2] (.cd 94) rfl,xk B5 [2,2,1,2,2,2,2,2,2,2,2] .sq rfl,rg B5 [1,2,2,1,2,2,2,2,2,2,2,2] 14 false rfl,hr_5_14,hc3,h21]
   rcases cond_some hF with ⟨h22,hF⟩ | ⟨h22,hF⟩
   ·cases hF
    simp (maxSteps:=999999) (disch:=first|exact D (by decide)|exact K (by kernel_rfl)) only [E,EE,↓reduceIte,simprocAttr,fieldAddrV,t_48,t_3,xk B5 [2,2,2,1,2,2,2,2,2,2,2,2] .rt rfl,finK_norm,finK_ret,fin5,R5_aiirrzai10rzi.st,hc3,h21,h22]
   ·cases hF
    simp (maxSteps:=999999) (disch:=first|exact D (by decide)|exact K (by kernel_rfl)) only [E,EE,↓reduceIte,simprocAttr,xk B5 [2,2,2,1,2,2,2,2,2,2,2,2] .rt rfl,finK_norm,finK_ret,fin5,R5_aiirrzai10rzi.st,hc3,h21,h22]
  ·simp (maxSteps:=999999) (disch:=first|exact D (by decide)|exact K (by kernel_rfl)) only [E,EE,↓reduceIte,simprocAttr,fieldAddrV,t_48,t_3,hc3,h21]
   rcases cond_some hF with ⟨h23,hF⟩ | ⟨h23,hF⟩
   ·simp (maxSteps:=999999) (disch:=first|exact D (by decide)|exact K (by kernel_rfl)) only [E,EE,↓reduceIte,simprocAttr,xk B5 [2,1,2,2,2,2,2,2,2,2] (.cd 94) rfl,xk B5 [2,2,1,2,2,2,2,2,2,2,2] .sq rfl,rg B5 [1,2,2,1,2,2,2,2,2,2,2,2] 14 false rfl,hr_5_14,hc3,h21,h23]
    rcases cond_some hF with ⟨h24,hF⟩ | ⟨h24,hF⟩
    ·cases hF
     simp (maxSteps:=999999) (disch:=first|exact D (by decide)|exact K (by kernel_rfl)) only [E,EE,↓reduceIte,simprocAttr,fieldAddrV,t_48,t_3,xk B5 [2,2,2,1,2,2,2,2,2,2,2,2] .rt rfl,finK_norm,finK_ret,fin5,R5_aiirrzai10rzi.st,hc3,h21,h23,h24]
    ·cases hF
     simp (maxSteps:=999999) (disch:=first|exact D (by decide)|exact K (by kernel_rfl)) only [E,EE,↓reduceIte,simprocAttr,xk B5 [2,2,2,1,2,2,2,2,2,2,2,2] .rt rfl,finK_norm,finK_ret,fin5,R5_aiirrzai10rzi.st,hc3,h21,h23,h24]
   ·simp (maxSteps:=999999) (disch:=first|exact D (by decide)|exact K (by kernel_rfl)) only [E,EE,↓reduceIte,simprocAttr,fieldAddrV,t_48,t_3,xk B5 [2,1,2,2,2,2,2,2,2,2] (.cd 94) rfl,hc3,h21,h23]
    rcases cond_some hF with ⟨h25,hF⟩ | ⟨h25,hF⟩
    ·simp (maxSteps:=999999) (disch:=first|exact D (by decide)|exact K (by kernel_rfl)) only [E,EE,↓reduceIte,simprocAttr,xk B5 [2,2,1,2,2,2,2,2,2,2,2] .sq rfl,rg B5 [1,2,2,1,2,2,2,2,2,2,2,2] 14 false rfl,hr_5_14,hc3,h21,h23,h25]
     rcases cond_some hF with ⟨h26,hF⟩ | ⟨h26,hF⟩
     ·cases hF
      simp (maxSteps:=999999) (disch:=first|exact D (by decide)|exact K (by kernel_rfl)) only [E,EE,↓reduceIte,simprocAttr,fieldAddrV,t_48,t_3,xk B5 [2,2,2,1,2,2,2,2,2,2,2,2] .rt rfl,finK_norm,finK_ret,fin5,R5_aiirrzai10rzi.st,hc3,h21,h23,h25,h26]
     ·cases hF
      simp (maxSteps:=999999) (disch:=first|exact D (by decide)|exact K (by kernel_rfl)) only [E,EE,↓reduceIte,simprocAttr,xk B5 [2,2,2,1,2,2,2,2,2,2,2,2] .rt rfl,finK_norm,finK_ret,fin5,R5_aiirrzai10rzi.st,hc3,h21,h23,h25,h26]
    ·have hJ := f5_aiirrzai10rzi_j10_ok k v19 false m3 m3_1 m3_2 m3_3 m7 m7_1 m7_2 m7_3 m8 m8_1 m8_2 m8_3 m8_4 m8_5 m8_6 m8_7 m8_8 m8_9 m8_10 m8_11 v7 v8 v9 v10 v11 v12 v13 v14 v15 v16 v17 v18 _ hF
     simp (maxSteps:=999999) (disch:=first|exact D (by decide)|exact K (by kernel_rfl)) only [E,EE,↓reduceIte,simprocAttr,xk B5 [3,2,1,2,2,2,2,2,2,2,2] .sk rfl,hc3,h21,h23,h25]
     try simp only [NM,EE] at hJ
     exact hJ
 | o1 v27 v28 v29 v30 v31 v32 v33 v34 v35 v36 v37 v38 v39 v40 v41 v42 v43 =>
  (try dsimp only at hF)
  (try simp only [NM,EE,R18_aiirrzai10rzi.st] at hc3)
  simp (maxSteps:=999999) (disch:=first|exact D (by decide)|exact K (by kernel_rfl)) only [E,EE,↓reduceIte,simprocAttr,t_26,t_48,xk B5 [2,2,2,2,2,2,2,2] .sq rfl,xk B5 [1,2,2,2,2,2,2,2,2] .sq rfl,rg B5 [1,1,2,2,2,2,2,2,2,2] 13 false rfl,hr_5_13,fieldAddrV,t_3,hc3]
  rcases cond_some hF with ⟨h44,hF⟩ | ⟨h44,hF⟩
  ·simp (maxSteps:=999999) (disch:=first|exact D (by decide)|exact K (by kernel_rfl)) only [E,EE,↓reduceIte,simprocAttr,xk B5 [2,1,2,2,2,2,2,2,2,2] (.cd 94) rfl,xk B5 [2,2,1,2,2,2,2,2,2,2,2] .sq rfl,rg B5 [1,2,2,1,2,2,2,2,2,2,2,2] 14 false rfl,hr_5_14,hc3,h44]
   rcases cond_some hF with ⟨h45,hF⟩ | ⟨h45,hF⟩
   ·cases hF
    simp (maxSteps:=999999) (disch:=first|exact D (by decide)|exact K (by kernel_rfl)) only [E,EE,↓reduceIte,simprocAttr,fieldAddrV,t_48,t_3,xk B5 [2,2,2,1,2,2,2,2,2,2,2,2] .rt rfl,finK_norm,finK_ret,fin5,R5_aiirrzai10rzi.st,hc3,h44,h45]
   ·cases hF
    simp (maxSteps:=999999) (disch:=first|exact D (by decide)|exact K (by kernel_rfl)) only [E,EE,↓reduceIte,simprocAttr,xk B5 [2,2,2,1,2,2,2,2,2,2,2,2] .rt rfl,finK_norm,finK_ret,fin5,R5_aiirrzai10rzi.st,hc3,h44,h45]
  ·simp (maxSteps:=999999) (disch:=first|exact D (by decide)|exact K (by kernel_rfl)) only [E,EE,↓reduceIte,simprocAttr,fieldAddrV,t_48,t_3,hc3,h44]
   rcases cond_some hF with ⟨h46,hF⟩ | ⟨h46,hF⟩
   ·simp (maxSteps:=999999) (disch:=first|exact D (by decide)|exact K (by kernel_rfl)) only [E,EE,↓reduceIte,simprocAttr,xk B5 [2,1,2,2,2,2,2,2,2,2] (.cd 94) rfl,xk B5 [2,2,1,2,2,2,2,2,2,2,2] .sq rfl,rg B5 [1,2,2,1,2,2,2,2,2,2,2,2] 14 false rfl,hr_5_14,hc3,h44,h46]
    rcases cond_some hF with ⟨h47,hF⟩ | ⟨h47,hF⟩
    ·cases hF
     simp (maxSteps:=999999) (disch:=first|exact D (by decide)|exact K (by kernel_rfl)) only [E,EE,↓reduceIte,simprocAttr,fieldAddrV,t_48,t_3,xk B5 [2,2,2,1,2,2,2,2,2,2,2,2] .rt rfl,finK_norm,finK_ret,fin5,R5_aiirrzai10rzi.st,hc3,h44,h46,h47]
    ·cases hF
     simp (maxSteps:=999999) (disch:=first|exact D (by decide)|exact K (by kernel_rfl)) only [E,EE,↓reduceIte,simprocAttr,xk B5 [2,2,2,1,2,2,2,2,2,2,2,2] .rt rfl,finK_norm,finK_ret,fin5,R5_aiirrzai10rzi.st,hc3,h44,h46,h47]
   ·simp (maxSteps:=999999) (disch:=first|exact D (by decide)|exact K (by kernel_rfl)) only [E,EE,↓reduceIte,simprocAttr,fieldAddrV,t_48,t_3,xk B5 [2,1,2,2,2,2,2,2,2,2] (.cd 94) rfl,hc3,h44,h46]
    rcases cond_some hF with ⟨h48,hF⟩ | ⟨h48,hF⟩
    ·simp (maxSteps:=999999) (disch:=first|exact D (by decide)|exact K (by kernel_rfl)) only [E,EE,↓reduceIte,simprocAttr,xk B5 [2,2,1,2,2,2,2,2,2,2,2] .sq rfl,rg B5 [1,2,2,1,2,2,2,2,2,2,2,2] 14 false rfl,hr_5_14,hc3,h44,h46,h48]
     rcases cond_some hF with ⟨h49,hF⟩ | ⟨h49,hF⟩
     ·cases hF
      simp (maxSteps:=999999) (disch:=first|exact D (by decide)|exact K (by kernel_rfl)) only [E,EE,↓reduceIte,simprocAttr,fieldAddrV,t_48,t_3,xk B5 [2,2,2,1,2,2,2,2,2,2,2,2] .rt rfl,finK_norm,finK_ret,fin5,R5_aiirrzai10rzi.st,hc3,h44,h46,h48,h49]
     ·cases hF
      simp (maxSteps:=999999) (disch:=first|exact D (by decide)|exact K (by kernel_rfl)) only [E,EE,↓reduceIte,simprocAttr,xk B5 [2,2,2,1,2,2,2,2,2,2,2,2] .rt rfl,finK_norm,finK_ret,fin5,R5_aiirrzai10rzi.st,hc3,h44,h46,h48,h49]
    ·have hJ := f5_aiirrzai10rzi_j10_ok k v43 false m3 m3_1 m3_2 m3_3 m7 m7_1 m7_2 m7_3 m8 m8_1 m8_2 m8_3 m8_4 m8_5 m8_6 m8_7 m8_8 m8_9 m8_10 m8_11 v31 v32 v33 v34 v35 v36 v37 v38 v39 v40 v41 v42 _ hF
     simp (maxSteps:=999999) (disch:=first|exact D (by decide)|exact K (by kernel_rfl)) only [E,EE,↓reduceIte,simprocAttr,xk B5 [3,2,1,2,2,2,2,2,2,2,2] .sk rfl,hc3,h44,h46,h48]
     try simp only [NM,EE] at hJ
     exact hJ
noncomputable def f5_aiirrzai10rzi_j8 (k:Nat) (x2:Int) (x44:Bool) (m3 m3_1:Int) (m3_2:List T65) (m3_3:List T39) (m4 m4_1 m4_2 m4_3 m4_4 m4_5 m4_6 m4_7 m4_8 m4_9:Int) (m4_10:List Int) (m7 m7_1:Int) (m7_2:List T65) (m7_3:List T39) (m8 m8_1 m8_2 m8_3 m8_4 m8_5 m8_6 m8_7 m8_8 m8_9 m8_10:Int) (m8_11:List Int) : Option R5_aiirrzai10rzi :=
 cond ((m8 == 6))
  (
   cond ((m8_7 != (IntKind.i64.wrap (m4_6 + (1:Int)))))
    (some (R5_aiirrzai10rzi.o0 false))
    (
     Option.bind (f20_rr k m8_11 m4_10) fun o3 =>
      match o3 with
      | .o0 v6 =>
       cond ((!v6))
        (some (R5_aiirrzai10rzi.o0 false))
        (
         cond ((m8_2 != m4_1))
          (some (R5_aiirrzai10rzi.o0 false))
          (f5_aiirrzai10rzi_j9 k x2 false m3 m3_1 m3_2 m3_3 m4 m4_1 m4_2 m4_3 m4_4 m4_5 m4_6 m4_7 m4_8 m4_9 m4_10 m7 m7_1 m7_2 m7_3 m8 m8_1 m8_2 m8_3 m8_4 m8_5 m8_6 m8_7 m8_8 m8_9 m8_10 m8_11))))
  (f5_aiirrzai10rzi_j9 k x2 false m3 m3_1 m3_2 m3_3 m4 m4_1 m4_2 m4_3 m4_4 m4_5 m4_6 m4_7 m4_8 m4_9 m4_10 m7 m7_1 m7_2 m7_3 m8 m8_1 m8_2 m8_3 m8_4 m8_5 m8_6 m8_7 m8_8 m8_9 m8_10 m8_11)
theorem f5_aiirrzai10rzi_j8_ok (k:Nat) (x2:Int) (x44:Bool) (m3 m3_1:Int) (m3_2:List T65) (m3_3:List T39) (m4 m4_1 m4_2 m4_3 m4_4 m4_5 m4_6 m4_7 m4_8 m4_9:Int) (m4_10:List Int) (m7 m7_1:Int) (m7_2:List T65) (m7_3:List T39) (m8 m8_1 m8_2 m8_3 m8_4 m8_5 m8_6 m8_7 m8_8 m8_9 m8_10:Int) (m8_11:List Int) (r:R5_aiirrzai10rzi) (hF:f5_aiirrzai10rzi_j8 k x2 x44 m3 m3_1 m3_2 m3_3 m4 m4_1 m4_2 m4_3 m4_4 m4_5 m4_6 m4_7 m4_8 m4_9 m4_10 m7 m7_1 m7_2 m7_3 m8 m8_1 m8_2 m8_3 m8_4 m8_5 m8_6 m8_7 m8_8 m8_9 m8_10 m8_11 = some r) : finK Try.prog Try.f5 0 (EX 5 k (nav B5 [2,2,2,2,2,2]) (⟨116,[(2,.p (.int .i64 x2)),(3,.ptr 3 0),(4,.ptr 4 0),(7,.ptr 7 0),(8,.ptr 8 0),(44,.p (.bool x44))],[(3,.box 26 [.p (.int .i64 m3),.p (.int .u32 m3_1),.sl 4 (rowsOf encT65 m3_2),.sl 11 (rowsOf encT39 m3_3)]),(4,.box 39 [.p (.int .i64 m4),.p (.int .i64 m4_1),.p (.int .u32 m4_2),.p (.int .i64 m4_3),.p (.int .i64 m4_4),.p (.int .i64 m4_5),.p (.int .i64 m4_6),.p (.int .i64 m4_7),.p (.int .i64 m4_8),.p (.int .i64 m4_9),.sl 1 (rowsOf (encI .u8) m4_10)]),(7,.box 26 [.p (.int .i64 m7),.p (.int .u32 m7_1),.sl 4 (rowsOf encT65 m7_2),.sl 11 (rowsOf encT39 m7_3)]),(8,.box 48 [.p (.int .i64 m8),.p (.int .i64 m8_1),.p (.int .i64 m8_2),.p (.int .u32 m8_3),.p (.int .i64 m8_4),.p (.int .i64 m8_5),.p (.int .i64 m8_6),.p (.int .i64 m8_7),.p (.int .i64 m8_8),.p (.int .i64 m8_9),.p (.int .i64 m8_10),.sl 1 (rowsOf (encI .u8) m8_11)])]⟩ : St)) = some r.st := by
 unfold f5_aiirrzai10rzi_j8 at hF
 simp (maxSteps:=999999) (disch:=first|exact D (by decide)|exact K (by kernel_rfl)) only [E,EE,↓reduceIte,simprocAttr,xk B5 [2,2,2,2,2,2] .sq rfl,xk B5 [1,2,2,2,2,2,2] .sq rfl,rg B5 [1,1,2,2,2,2,2,2] 10 false rfl,hr_5_10,fieldAddrV,t_48,t_3]
 rcases cond_some hF with ⟨h1,hF⟩ | ⟨h1,hF⟩
 ·simp (maxSteps:=999999) (disch:=first|exact D (by decide)|exact K (by kernel_rfl)) only [E,EE,↓reduceIte,simprocAttr,fieldAddrV,t_48,t_39,t_3,h1]
  rcases cond_some hF with ⟨h2,hF⟩ | ⟨h2,hF⟩
  ·cases hF
   simp (maxSteps:=999999) (disch:=first|exact D (by decide)|exact K (by kernel_rfl)) only [E,EE,↓reduceIte,simprocAttr,xk B5 [2,1,2,2,2,2,2,2] (.cd 73) rfl,xk B5 [2,2,1,2,2,2,2,2,2] .sq rfl,rg B5 [1,2,2,1,2,2,2,2,2,2] 11 false rfl,hr_5_11,xk B5 [2,2,2,1,2,2,2,2,2,2] .rt rfl,finK_norm,finK_ret,fin5,R5_aiirrzai10rzi.st,h1,h2]
  ·obtain ⟨o3,h4,hF⟩ := bs hF
   have hc5 := f20_rr_ok k m8_11 m4_10 _ h4
   cases o3 with
   | o0 v6 =>
    (try dsimp only at hF)
    (try simp only [NM,EE,R20_rr.st] at hc5)
    simp (maxSteps:=999999) (disch:=first|exact D (by decide)|exact K (by kernel_rfl)) only [E,EE,↓reduceIte,simprocAttr,fieldAddrV,t_48,t_39,t_29,callStep,CL,gv,List.contains,h1,h2,hc5]
    rcases cond_some hF with ⟨h7,hF⟩ | ⟨h7,hF⟩
    ·cases hF
     simp (maxSteps:=999999) (disch:=first|exact D (by decide)|exact K (by kernel_rfl)) only [E,EE,↓reduceIte,simprocAttr,xk B5 [2,1,2,2,2,2,2,2] (.cd 73) rfl,xk B5 [2,2,1,2,2,2,2,2,2] .sq rfl,rg B5 [1,2,2,1,2,2,2,2,2,2] 11 false rfl,hr_5_11,xk B5 [2,2,2,1,2,2,2,2,2,2] .rt rfl,finK_norm,finK_ret,fin5,R5_aiirrzai10rzi.st,h1,h2,hc5,h7]
    ·simp (maxSteps:=999999) (disch:=first|exact D (by decide)|exact K (by kernel_rfl)) only [E,EE,↓reduceIte,simprocAttr,fieldAddrV,t_48,t_39,t_3,xk B5 [2,1,2,2,2,2,2,2] (.cd 73) rfl,h1,h2,hc5,h7]
     rcases cond_some hF with ⟨h8,hF⟩ | ⟨h8,hF⟩
     ·cases hF
      simp (maxSteps:=999999) (disch:=first|exact D (by decide)|exact K (by kernel_rfl)) only [E,EE,↓reduceIte,simprocAttr,xk B5 [2,2,1,2,2,2,2,2,2] .sq rfl,rg B5 [1,2,2,1,2,2,2,2,2,2] 11 false rfl,hr_5_11,xk B5 [2,2,2,1,2,2,2,2,2,2] .rt rfl,finK_norm,finK_ret,fin5,R5_aiirrzai10rzi.st,h1,h2,hc5,h7,h8]
     ·have hJ := f5_aiirrzai10rzi_j9_ok k x2 false m3 m3_1 m3_2 m3_3 m4 m4_1 m4_2 m4_3 m4_4 m4_5 m4_6 m4_7 m4_8 m4_9 m4_10 m7 m7_1 m7_2 m7_3 m8 m8_1 m8_2 m8_3 m8_4 m8_5 m8_6 m8_7 m8_8 m8_9 m8_10 m8_11 _ hF
      simp (maxSteps:=999999) (disch:=first|exact D (by decide)|exact K (by kernel_rfl)) only [E,EE,↓reduceIte,simprocAttr,xk B5 [3,2,1,2,2,2,2,2,2] .sk rfl,h1,h2,hc5,h7,h8]
      try simp only [NM,EE] at hJ
      exact hJ
 ·have hJ := f5_aiirrzai10rzi_j9_ok k x2 false m3 m3_1 m3_2 m3_3 m4 m4_1 m4_2 m4_3 m4_4 m4_5 m4_6 m4_7 m4_8 m4_9 m4_10 m7 m7_1 m7_2 m7_3 m8 m8_1 m8_2 m8_3 m8_4 m8_5 m8_6 m8_7 m8_8 m8_9 m8_10 m8_11 _ hF
  simp (maxSteps:=999999) (disch:=first|exact D (by decide)|exact K (by kernel_rfl)) only [E,EE,↓reduceIte,simprocAttr,xk B5 [2,1,2,2,2,2,2,2] (.cd 73) rfl,xk B5 [3,2,1,2,2,2,2,2,2] .sk rfl,h1]
  try simp only [NM,EE] at hJ
  exact hJ
noncomputable def f5_aiirrzai10rzi_j7 (k:Nat) (x2:Int) (x28:Bool) (m3 m3_1:Int) (m3_2:List T65) (m3_3:List T39) (m4 m4_1 m4_2 m4_3 m4_4 m4_5 m4_6 m4_7 m4_8 m4_9:Int) (m4_10:List Int) (m7 m7_1:Int) (m7_2:List T65) (m7_3:List T39) (m8 m8_1 m8_2 m8_3 m8_4 m8_5 m8_6 m8_7 m8_8 m8_9 m8_10:Int) (m8_11:List Int) : Option R5_aiirrzai10rzi :=
 Option.bind (f19_aiirrz k m7 m7_1 m7_2 m7_3) fun o1 =>
  match o1 with
  | .o0 v4 =>
   cond ((v4 != 0))
    (some (R5_aiirrzai10rzi.o0 false))
    (
     cond ((decide (m8 < 1)))
      (some (R5_aiirrzai10rzi.o0 false))
      (
       cond ((decide (m8 > 9)))
        (some (R5_aiirrzai10rzi.o0 false))
        (f5_aiirrzai10rzi_j8 k x2 false m3 m3_1 m3_2 m3_3 m4 m4_1 m4_2 m4_3 m4_4 m4_5 m4_6 m4_7 m4_8 m4_9 m4_10 m7 m7_1 m7_2 m7_3 m8 m8_1 m8_2 m8_3 m8_4 m8_5 m8_6 m8_7 m8_8 m8_9 m8_10 m8_11)))
theorem f5_aiirrzai10rzi_j7_ok (k:Nat) (x2:Int) (x28:Bool) (m3 m3_1:Int) (m3_2:List T65) (m3_3:List T39) (m4 m4_1 m4_2 m4_3 m4_4 m4_5 m4_6 m4_7 m4_8 m4_9:Int) (m4_10:List Int) (m7 m7_1:Int) (m7_2:List T65) (m7_3:List T39) (m8 m8_1 m8_2 m8_3 m8_4 m8_5 m8_6 m8_7 m8_8 m8_9 m8_10:Int) (m8_11:List Int) (r:R5_aiirrzai10rzi) (hF:f5_aiirrzai10rzi_j7 k x2 x28 m3 m3_1 m3_2 m3_3 m4 m4_1 m4_2 m4_3 m4_4 m4_5 m4_6 m4_7 m4_8 m4_9 m4_10 m7 m7_1 m7_2 m7_3 m8 m8_1 m8_2 m8_3 m8_4 m8_5 m8_6 m8_7 m8_8 m8_9 m8_10 m8_11 = some r) : finK Try.prog Try.f5 0 (EX 5 k (nav B5 [2,2,2,2,2]) (⟨116,[(2,.p (.int .i64 x2)),(3,.ptr 3 0),(4,.ptr 4 0),(7,.ptr 7 0),(8,.ptr 8 0),(28,.p (.bool x28))],[(3,.box 26 [.p (.int .i64 m3),.p (.int .u32 m3_1),.sl 4 (rowsOf encT65 m3_2),.sl 11 (rowsOf encT39 m3_3)]),(4,.box 39 [.p (.int .i64 m4),.p (.int .i64 m4_1),.p (.int .u32 m4_2),.p (.int .i64 m4_3),.p (.int .i64 m4_4),.p (.int .i64 m4_5),.p (.int .i64 m4_6),.p (.int .i64 m4_7),.p (.int .i64 m4_8),.p (.int .i64 m4_9),.sl 1 (rowsOf (encI .u8) m4_10)]),(7,.box 26 [.p (.int .i64 m7),.p (.int .u32 m7_1),.sl 4 (rowsOf encT65 m7_2),.sl 11 (rowsOf encT39 m7_3)]),(8,.box 48 [.p (.int .i64 m8),.p (.int .i64 m8_1),.p (.int .i64 m8_2),.p (.int .u32 m8_3),.p (.int .i64 m8_4),.p (.int .i64 m8_5),.p (.int .i64 m8_6),.p (.int .i64 m8_7),.p (.int .i64 m8_8),.p (.int .i64 m8_9),.p (.int .i64 m8_10),.sl 1 (rowsOf (encI .u8) m8_11)])]⟩ : St)) = some r.st := by
 unfold f5_aiirrzai10rzi_j7 at hF
 obtain ⟨o1,h2,hF⟩ := bs hF
 have hc3 := f19_aiirrz_ok k m7 m7_1 m7_2 m7_3 _ h2
 cases o1 with
 | o0 v4 =>
  (try dsimp only at hF)
  (try simp only [NM,EE,R19_aiirrz.st] at hc3)
  simp (maxSteps:=999999) (disch:=first|exact D (by decide)|exact K (by kernel_rfl)) only [E,EE,↓reduceIte,simprocAttr,xk B5 [2,2,2,2,2] .sq rfl,xk B5 [1,2,2,2,2,2] .sq rfl,rg B5 [1,1,2,2,2,2,2] 8 false rfl,hr_5_8,t_26,callStep,CL,gv,List.contains,hc3]
  rcases cond_some hF with ⟨h5,hF⟩ | ⟨h5,hF⟩
  ·cases hF
   simp (maxSteps:=999999) (disch:=first|exact D (by decide)|exact K (by kernel_rfl)) only [E,EE,↓reduceIte,simprocAttr,xk B5 [2,1,2,2,2,2,2] (.cd 44) rfl,xk B5 [2,2,1,2,2,2,2,2] .sq rfl,rg B5 [1,2,2,1,2,2,2,2,2] 9 false rfl,hr_5_9,xk B5 [2,2,2,1,2,2,2,2,2] .rt rfl,finK_norm,finK_ret,fin5,R5_aiirrzai10rzi.st,hc3,h5]
  ·simp (maxSteps:=999999) (disch:=first|exact D (by decide)|exact K (by kernel_rfl)) only [E,EE,↓reduceIte,simprocAttr,fieldAddrV,t_48,t_3,hc3,h5]
   rcases cond_some hF with ⟨h6,hF⟩ | ⟨h6,hF⟩
   ·cases hF
    simp (maxSteps:=999999) (disch:=first|exact D (by decide)|exact K (by kernel_rfl)) only [E,EE,↓reduceIte,simprocAttr,xk B5 [2,1,2,2,2,2,2] (.cd 44) rfl,xk B5 [2,2,1,2,2,2,2,2] .sq rfl,rg B5 [1,2,2,1,2,2,2,2,2] 9 false rfl,hr_5_9,xk B5 [2,2,2,1,2,2,2,2,2] .rt rfl,finK_norm,finK_ret,fin5,R5_aiirrzai10rzi.st,hc3,h5,h6]
   ·simp (maxSteps:=999999) (disch:=first|exact D (by decide)|exact K (by kernel_rfl)) only [E,EE,↓reduceIte,simprocAttr,fieldAddrV,t_48,t_3,xk B5 [2,1,2,2,2,2,2] (.cd 44) rfl,hc3,h5,h6]
    rcases cond_some hF with ⟨h7,hF⟩ | ⟨h7,hF⟩
    ·cases hF
     simp (maxSteps:=999999) (disch:=first|exact D (by decide)|exact K (by kernel_rfl)) only [E,EE,↓reduceIte,simprocAttr,xk B5 [2,2,1,2,2,2,2,2] .sq rfl,rg B5 [1,2,2,1,2,2,2,2,2] 9 false rfl,hr_5_9,xk B5 [2,2,2,1,2,2,2,2,2] .rt rfl,finK_norm,finK_ret,fin5,R5_aiirrzai10rzi.st,hc3,h5,h6,h7]
    ·have hJ := f5_aiirrzai10rzi_j8_ok k x2 false m3 m3_1 m3_2 m3_3 m4 m4_1 m4_2 m4_3 m4_4 m4_5 m4_6 m4_7 m4_8 m4_9 m4_10 m7 m7_1 m7_2 m7_3 m8 m8_1 m8_2 m8_3 m8_4 m8_5 m8_6 m8_7 m8_8 m8_9 m8_10 m8_11 _ hF
     simp (maxSteps:=999999) (disch:=first|exact D (by decide)|exact K (by kernel_rfl)) only [E,EE,↓reduceIte,simprocAttr,xk B5 [3,2,1,2,2,2,2,2] .sk rfl,hc3,h5,h6,h7]
     try simp only [NM,EE] at hJ
     exact hJ
noncomputable def f5_aiirrzai10rzi_j2 (k:Nat) (x2:Int) (x18:Bool) (m3 m3_1:Int) (m3_2:List T65) (m3_3:List T39) (m4 m4_1 m4_2 m4_3 m4_4 m4_5 m4_6 m4_7 m4_8 m4_9:Int) (m4_10:List Int) : Option R5_aiirrzai10rzi :=
 Option.bind (f18_aiirrzai10rzi k m3 m3_1 m3_2 m3_3 m4 m4_1 m4_2 m4_3 m4_4 m4_5 m4_6 m4_7 m4_8 m4_9 m4_10 x2) fun o1 =>
  match o1 with
  | .o0 v4 v5 v6 v7 v8 v9 v10 v11 v12 v13 v14 v15 v16 v17 v18 v19 v20 =>
   cond ((v19 != 0))
    (some (R5_aiirrzai10rzi.o0 (v7 == 0)))
    (f5_aiirrzai10rzi_j3 k x2 false m3 m3_1 m3_2 m3_3 m4 m4_1 m4_2 m4_3 m4_4 m4_5 m4_6 m4_7 m4_8 m4_9 m4_10 v4 v5 v6 v20 v7 v8 v9 v10 v11 v12 v13 v14 v15 v16 v17 v18)
  | .o1 v22 v23 v24 v25 v26 v27 v28 v29 v30 v31 v32 v33 v34 v35 v36 v37 v38 =>
   cond ((v38 != 0))
    (some (R5_aiirrzai10rzi.o0 (v26 == 0)))
    (f5_aiirrzai10rzi_j7 k x2 false m3 m3_1 m3_2 m3_3 m4 m4_1 m4_2 m4_3 m4_4 m4_5 m4_6 m4_7 m4_8 m4_9 m4_10 v22 v23 v24 v25 v26 v27 v28 v29 v30 v31 v32 v33 v34 v35 v36 v37)
theorem f5_aiirrzai10rzi_j2_ok (k:Nat) (x2:Int) (x18:Bool) (m3 m3_1:Int) (m3_2:List T65) (m3_3:List T39) (m4 m4_1 m4_2 m4_3 m4_4 m4_5 m4_6 m4_7 m4_8 m4_9:Int) (m4_10:List Int) (r:R5_aiirrzai10rzi) (hF:f5_aiirrzai10rzi_j2 k x2 x18 m3 m3_1 m3_2 m3_3 m4 m4_1 m4_2 m4_3 m4_4 m4_5 m4_6 m4_7 m4_8 m4_9 m4_10 = some r) : finK Try.prog Try.f5 0 (EX 5 k (nav B5 [2,2,2]) (⟨116,[(2,.p (.int .i64 x2)),(3,.ptr 3 0),(4,.ptr 4 0),(18,.p (.bool x18))],[(3,.box 26 [.p (.int .i64 m3),.p (.int .u32 m3_1),.sl 4 (rowsOf encT65 m3_2),.sl 11 (rowsOf encT39 m3_3)]),(4,.box 39 [.p (.int .i64 m4),.p (.int .i64 m4_1),.p (.int .u32 m4_2),.p (.int .i64 m4_3),.p (.int .i64 m4_4),.p (.int .i64 m4_5),.p (.int .i64 m4_6),.p (.int .i64 m4_7),.p (.int .i64 m4_8),.p (.int .i64 m4_9),.sl 1 (rowsOf (encI .u8) m4_10)])]⟩ : St)) = some r.st := by
 unfold f5_aiirrzai10rzi_j2 at hF
 simp (maxSteps:=999999) (disch:=first|exact D (by decide)|exact K (by kernel_rfl)) only [E,EE,↓reduceIte,simprocAttr,xk B5 [2,2,2] .sq rfl,rg B5 [1,2,2,2] 5 false rfl,hr_5_5,t_26,t_39,callStep,CL,gv,List.contains]
 obtain ⟨o1,h2,hF⟩ := bs hF
 have hc3 := f18_aiirrzai10rzi_ok k m3 m3_1 m3_2 m3_3 m4 m4_1 m4_2 m4_3 m4_4 m4_5 m4_6 m4_7 m4_8 m4_9 m4_10 x2 _ h2
 cases o1 with
 | o0 v4 v5 v6 v7 v8 v9 v10 v11 v12 v13 v14 v15 v16 v17 v18 v19 v20 =>
  (try dsimp only at hF)
  (try simp only [NM,EE,R18_aiirrzai10rzi.st] at hc3)
  simp (maxSteps:=999999) (disch:=first|exact D (by decide)|exact K (by kernel_rfl)) only [E,EE,↓reduceIte,simprocAttr,t_26,t_48,xk B5 [2,2,2,2] .sq rfl,xk B5 [1,2,2,2,2] .sq rfl,rg B5 [1,1,2,2,2,2] 6 false rfl,hr_5_6,xk B5 [2,1,2,2,2,2] (.cd 28) rfl,hc3]
  rcases cond_some hF with ⟨h21,hF⟩ | ⟨h21,hF⟩
  ·cases hF
   simp (maxSteps:=999999) (disch:=first|exact D (by decide)|exact K (by kernel_rfl)) only [E,EE,↓reduceIte,simprocAttr,xk B5 [2,2,1,2,2,2,2] .sq rfl,rg B5 [1,2,2,1,2,2,2,2] 7 false rfl,hr_5_7,fieldAddrV,t_48,t_3,xk B5 [2,2,2,1,2,2,2,2] .rt rfl,finK_norm,finK_ret,fin5,R5_aiirrzai10rzi.st,hc3,h21]
  ·have hJ := f5_aiirrzai10rzi_j3_ok k x2 false m3 m3_1 m3_2 m3_3 m4 m4_1 m4_2 m4_3 m4_4 m4_5 m4_6 m4_7 m4_8 m4_9 m4_10 v4 v5 v6 v20 v7 v8 v9 v10 v11 v12 v13 v14 v15 v16 v17 v18 _ hF
   simp (maxSteps:=999999) (disch:=first|exact D (by decide)|exact K (by kernel_rfl)) only [E,EE,↓reduceIte,simprocAttr,xk B5 [3,2,1,2,2,2,2] .sk rfl,hc3,h21]
   try simp only [NM,EE] at hJ
   exact hJ
 | o1 v22 v23 v24 v25 v26 v27 v28 v29 v30 v31 v32 v33 v34 v35 v36 v37 v38 =>
  (try dsimp only at hF)
  (try simp only [NM,EE,R18_aiirrzai10rzi.st] at hc3)
  simp (maxSteps:=999999) (disch:=first|exact D (by decide)|exact K (by kernel_rfl)) only [E,EE,↓reduceIte,simprocAttr,t_26,t_48,xk B5 [2,2,2,2] .sq rfl,xk B5 [1,2,2,2,2] .sq rfl,rg B5 [1,1,2,2,2,2] 6 false rfl,hr_5_6,xk B5 [2,1,2,2,2,2] (.cd 28) rfl,hc3]
  rcases cond_some hF with ⟨h39,hF⟩ | ⟨h39,hF⟩
  ·cases hF
   simp (maxSteps:=999999) (disch:=first|exact D (by decide)|exact K (by kernel_rfl)) only [E,EE,↓reduceIte,simprocAttr,xk B5 [2,2,1,2,2,2,2] .sq rfl,rg B5 [1,2,2,1,2,2,2,2] 7 false rfl,hr_5_7,fieldAddrV,t_48,t_3,xk B5 [2,2,2,1,2,2,2,2] .rt rfl,finK_norm,finK_ret,fin5,R5_aiirrzai10rzi.st,hc3,h39]
  ·have hJ := f5_aiirrzai10rzi_j7_ok k x2 false m3 m3_1 m3_2 m3_3 m4 m4_1 m4_2 m4_3 m4_4 m4_5 m4_6 m4_7 m4_8 m4_9 m4_10 v22 v23 v24 v25 v26 v27 v28 v29 v30 v31 v32 v33 v34 v35 v36 v37 _ hF
   simp (maxSteps:=999999) (disch:=first|exact D (by decide)|exact K (by kernel_rfl)) only [E,EE,↓reduceIte,simprocAttr,xk B5 [3,2,1,2,2,2,2] .sk rfl,hc3,h39]
   try simp only [NM,EE] at hJ
   exact hJ
noncomputable def f5_aiirrzai10rzi_j1 (k:Nat) (x2:Int) (x14:Bool) (m3 m3_1:Int) (m3_2:List T65) (m3_3:List T39) (m4 m4_1 m4_2 m4_3 m4_4 m4_5 m4_6 m4_7 m4_8 m4_9:Int) (m4_10:List Int) : Option R5_aiirrzai10rzi :=
 Option.bind (f8_aiirrzr k m3 m3_1 m3_2 m3_3 ([(T39.mk m4 m4_1 m4_2 m4_3 m4_4 m4_5 m4_6 m4_7 m4_8 m4_9 m4_10)] : List T39)) fun o3 =>
  match o3 with
  | .o0 v6 =>
   cond (v6)
    (some (R5_aiirrzai10rzi.o0 true))
    (f5_aiirrzai10rzi_j2 k x2 false m3 m3_1 m3_2 m3_3 m4 m4_1 m4_2 m4_3 m4_4 m4_5 m4_6 m4_7 m4_8 m4_9 m4_10)
theorem f5_aiirrzai10rzi_j1_ok (k:Nat) (x2:Int) (x14:Bool) (m3 m3_1:Int) (m3_2:List T65) (m3_3:List T39) (m4 m4_1 m4_2 m4_3 m4_4 m4_5 m4_6 m4_7 m4_8 m4_9:Int) (m4_10:List Int) (r:R5_aiirrzai10rzi) (hF:f5_aiirrzai10rzi_j1 k x2 x14 m3 m3_1 m3_2 m3_3 m4 m4_1 m4_2 m4_3 m4_4 m4_5 m4_6 m4_7 m4_8 m4_9 m4_10 = some r) : finK Try.prog Try.f5 0 (EX 5 k (nav B5 [2,2]) (⟨116,[(2,.p (.int .i64 x2)),(3,.ptr 3 0),(4,.ptr 4 0),(14,.p (.bool x14))],[(3,.box 26 [.p (.int .i64 m3),.p (.int .u32 m3_1),.sl 4 (rowsOf encT65 m3_2),.sl 11 (rowsOf encT39 m3_3)]),(4,.box 39 [.p (.int .i64 m4),.p (.int .i64 m4_1),.p (.int .u32 m4_2),.p (.int .i64 m4_3),.p (.int .i64 m4_4),.p (.int .i64 m4_5),.p (.int .i64 m4_6),.p (.int .i64 m4_7),.p (.int .i64 m4_8),.p (.int .i64 m4_9),.sl 1 (rowsOf (encI .u8) m4_10)])]⟩ : St)) = some r.st := by
 unfold f5_aiirrzai10rzi_j1 at hF
 have q1 : [[.p (.int .i64 m4),.p (.int .i64 m4_1),.p (.int .u32 m4_2),.p (.int .i64 m4_3),.p (.int .i64 m4_4),.p (.int .i64 m4_5),.p (.int .i64 m4_6),.p (.int .i64 m4_7),.p (.int .i64 m4_8),.p (.int .i64 m4_9),.sl 1 (rowsOf (encI .u8) m4_10)]] = rowsOf encT39 ([(T39.mk m4 m4_1 m4_2 m4_3 m4_4 m4_5 m4_6 m4_7 m4_8 m4_9 m4_10)] : List T39) := rfl
 have q2 : List.map (tell [0,0,0,0,0,0,0,0,0,0,1]) (rowsOf encT39 ([(T39.mk m4 m4_1 m4_2 m4_3 m4_4 m4_5 m4_6 m4_7 m4_8 m4_9 m4_10)] : List T39)) = rowsOf encT39 ([(T39.mk m4 m4_1 m4_2 m4_3 m4_4 m4_5 m4_6 m4_7 m4_8 m4_9 m4_10)] : List T39) := rfl
 obtain ⟨o3,h4,hF⟩ := bs hF
 have hc5 := f8_aiirrzr_ok k m3 m3_1 m3_2 m3_3 ([(T39.mk m4 m4_1 m4_2 m4_3 m4_4 m4_5 m4_6 m4_7 m4_8 m4_9 m4_10)] : List T39) _ h4
 cases o3 with
 | o0 v6 =>
  (try dsimp only at hF)
  (try simp only [NM,EE,R8_aiirrzr.st] at hc5)
  simp (maxSteps:=999999) (disch:=first|exact D (by decide)|exact K (by kernel_rfl)) only [E,EE,↓reduceIte,simprocAttr,xk B5 [2,2] .sq rfl,xk B5 [1,2,2] .sq rfl,rg B5 [1,1,2,2] 3 false rfl,hr_5_3,t_26,t_39,buildSliceV,fillRows,sm_39,t_24,callStep,CL,gv,List.contains,xk B5 [2,1,2,2] (.cd 18) rfl,q1,q2,hc5]
  rcases cond_some hF with ⟨h7,hF⟩ | ⟨h7,hF⟩
  ·cases hF
   simp (maxSteps:=999999) (disch:=first|exact D (by decide)|exact K (by kernel_rfl)) only [E,EE,↓reduceIte,simprocAttr,xk B5 [2,2,1,2,2] .sq rfl,rg B5 [1,2,2,1,2,2] 4 false rfl,hr_5_4,xk B5 [2,2,2,1,2,2] .rt rfl,finK_norm,finK_ret,fin5,R5_aiirrzai10rzi.st,q1,q2,hc5,h7]
  ·have hJ := f5_aiirrzai10rzi_j2_ok k x2 false m3 m3_1 m3_2 m3_3 m4 m4_1 m4_2 m4_3 m4_4 m4_5 m4_6 m4_7 m4_8 m4_9 m4_10 _ hF
   simp (maxSteps:=999999) (disch:=first|exact D (by decide)|exact K (by kernel_rfl)) only [E,EE,↓reduceIte,simprocAttr,xk B5 [3,2,1,2,2] .sk rfl,q1,q2,hc5,h7]
   try simp only [NM,EE] at hJ
   exact hJ
noncomputable def f5_aiirrzai10rzi_e (k:Nat) (a0 a0_1:Int) (a0_2:List T65) (a0_3:List T39) (a1 a1_1 a1_2 a1_3 a1_4 a1_5 a1_6 a1_7 a1_8 a1_9:Int) (a1_10:List Int) (a2:Int) : Option R5_aiirrzai10rzi :=
 Option.bind (f7_ k) fun o1 =>
  match o1 with
  | .o0 v4 =>
   cond ((!v4))
    (some (R5_aiirrzai10rzi.o0 false))
    (f5_aiirrzai10rzi_j1 k a2 false a0 a0_1 a0_2 a0_3 a1 a1_1 a1_2 a1_3 a1_4 a1_5 a1_6 a1_7 a1_8 a1_9 a1_10)
theorem f5_aiirrzai10rzi_e_ok (k:Nat) (a0 a0_1:Int) (a0_2:List T65) (a0_3:List T39) (a1 a1_1 a1_2 a1_3 a1_4 a1_5 a1_6 a1_7 a1_8 a1_9:Int) (a1_10:List Int) (a2:Int) (r:R5_aiirrzai10rzi) (hF:f5_aiirrzai10rzi_e k a0 a0_1 a0_2 a0_3 a1 a1_1 a1_2 a1_3 a1_4 a1_5 a1_6 a1_7 a1_8 a1_9 a1_10 a2 = some r) : finK Try.prog Try.f5 0 (EX 5 k (nav B5 []) (⟨116,[(0,.agg [.p (.int .i64 a0),.p (.int .u32 a0_1),.sl 4 (rowsOf encT65 a0_2),.sl 11 (rowsOf encT39 a0_3)]),(1,.agg [.p (.int .i64 a1),.p (.int .i64 a1_1),.p (.int .u32 a1_2),.p (.int .i64 a1_3),.p (.int .i64 a1_4),.p (.int .i64 a1_5),.p (.int .i64 a1_6),.p (.int .i64 a1_7),.p (.int .i64 a1_8),.p (.int .i64 a1_9),.sl 1 (rowsOf (encI .u8) a1_10)]),(2,.p (.int .i64 a2))],[]⟩ : St)) = some r.st := by
 unfold f5_aiirrzai10rzi_e at hF
 obtain ⟨o1,h2,hF⟩ := bs hF
 have hc3 := f7__ok k _ h2
 cases o1 with
 | o0 v4 =>
  (try dsimp only at hF)
  (try simp only [NM,EE,R7_.st] at hc3)
  simp (maxSteps:=999999) (disch:=first|exact D (by decide)|exact K (by kernel_rfl)) only [E,EE,↓reduceIte,simprocAttr,xk B5 [] .sq rfl,rg B5 [1] 0 false rfl,hr_5_0,xk B5 [2] .sq rfl,xk B5 [1,2] .sq rfl,rg B5 [1,1,2] 1 false rfl,hr_5_1,callStep,CL,gv,List.contains,xk B5 [2,1,2] (.cd 14) rfl,hc3]
  rcases cond_some hF with ⟨h5,hF⟩ | ⟨h5,hF⟩
  ·cases hF
   simp (maxSteps:=999999) (disch:=first|exact D (by decide)|exact K (by kernel_rfl)) only [E,EE,↓reduceIte,simprocAttr,xk B5 [2,2,1,2] .sq rfl,rg B5 [1,2,2,1,2] 2 false rfl,hr_5_2,xk B5 [2,2,2,1,2] .rt rfl,finK_norm,finK_ret,fin5,R5_aiirrzai10rzi.st,hc3,h5]
  ·have hJ := f5_aiirrzai10rzi_j1_ok k a2 false a0 a0_1 a0_2 a0_3 a1 a1_1 a1_2 a1_3 a1_4 a1_5 a1_6 a1_7 a1_8 a1_9 a1_10 _ hF
   simp (maxSteps:=999999) (disch:=first|exact D (by decide)|exact K (by kernel_rfl)) only [E,EE,↓reduceIte,simprocAttr,xk B5 [3,2,1,2] .sk rfl,hc3,h5]
   try simp only [NM,EE] at hJ
   exact hJ
noncomputable def f5_aiirrzai10rzi (k:Nat) (a0 a0_1:Int) (a0_2:List T65) (a0_3:List T39) (a1 a1_1 a1_2 a1_3 a1_4 a1_5 a1_6 a1_7 a1_8 a1_9:Int) (a1_10:List Int) (a2:Int) : Option R5_aiirrzai10rzi := match k with | 0 => none | k + 1 => f5_aiirrzai10rzi_e k a0 a0_1 a0_2 a0_3 a1 a1_1 a1_2 a1_3 a1_4 a1_5 a1_6 a1_7 a1_8 a1_9 a1_10 a2
theorem f5_aiirrzai10rzi_ok (k:Nat) (a0 a0_1:Int) (a0_2:List T65) (a0_3:List T39) (a1 a1_1 a1_2 a1_3 a1_4 a1_5 a1_6 a1_7 a1_8 a1_9:Int) (a1_10:List Int) (a2:Int) (r:R5_aiirrzai10rzi) (hF:f5_aiirrzai10rzi k a0 a0_1 a0_2 a0_3 a1 a1_1 a1_2 a1_3 a1_4 a1_5 a1_6 a1_7 a1_8 a1_9 a1_10 a2 = some r) : CV k 5 [.agg [.p (.int .i64 a0),.p (.int .u32 a0_1),.sl 4 (rowsOf encT65 a0_2),.sl 11 (rowsOf encT39 a0_3)],.agg [.p (.int .i64 a1),.p (.int .i64 a1_1),.p (.int .u32 a1_2),.p (.int .i64 a1_3),.p (.int .i64 a1_4),.p (.int .i64 a1_5),.p (.int .i64 a1_6),.p (.int .i64 a1_7),.p (.int .i64 a1_8),.p (.int .i64 a1_9),.sl 1 (rowsOf (encI .u8) a1_10)],.p (.int .i64 a2)] [] = some r.st := by
 cases k with
 | zero => cases hF
 | succ k =>
  unfold CV
  rw [ev_call (F := Try.f5) (c := (nav B5 [])) rfl Try.func5 rfl rfl rfl rfl]
  exact f5_aiirrzai10rzi_e_ok k a0 a0_1 a0_2 a0_3 a1 a1_1 a1_2 a1_3 a1_4 a1_5 a1_6 a1_7 a1_8 a1_9 a1_10 a2 r hF
end Go.Proofs.YticggdfaehneeaaV