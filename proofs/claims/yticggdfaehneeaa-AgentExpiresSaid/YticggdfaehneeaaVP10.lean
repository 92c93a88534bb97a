/- What the program's functions answer: plain functions,and that the interpreter answers what they do. Written by a program of this session,out of the translation. -/
import Derived.Test.YticggdfaehneeaaVP9
namespace Go.Proofs.YticggdfaehneeaaV
open Go
set_option linter.unusedVariables false
set_option linter.unusedSimpArgs false
set_option maxRecDepth 8000
set_option maxHeartbeats 4000000
-- f13_ai10rz: f13 heliograph/heliographref09.Right
inductive R13_ai10rz where
 | o0 (y:Bool)
noncomputable def R13_ai10rz.st : R13_ai10rz → V × List O × List O
 | .o0 y => (.p (.bool y),[],[])
noncomputable def f13_ai10rz_j2 (k:Nat) (x85:Bool) (m1 m1_1 m1_2 m1_3 m1_4 m1_5 m1_6 m1_7 m1_8 m1_9:Int) (m1_10:List Int) : Option R13_ai10rz :=
 cond ((decide (((List.length m1_10) : Int) ≥ 1)))
  (
   cond ((decide (((List.length m1_10) : Int) ≤ m1_9)))
    (
     cond ((decide (m1_8 ≥ 0)))
      (some (R13_ai10rz.o0 (decide (m1_8 ≤ (IntKind.i64.wrap (m1_9 - ((List.length m1_10) : Int)))))))
      (some (R13_ai10rz.o0 false)))
    (some (R13_ai10rz.o0 false)))
  (some (R13_ai10rz.o0 false))
theorem f13_ai10rz_j2_ok (k:Nat) (x85:Bool) (m1 m1_1 m1_2 m1_3 m1_4 m1_5 m1_6 m1_7 m1_8 m1_9:Int) (m1_10:List Int) (r:R13_ai10rz) (hF:f13_ai10rz_j2 k x85 m1 m1_1 m1_2 m1_3 m1_4 m1_5 m1_6 m1_7 m1_8 m1_9 m1_10 = some r) : finK Try.prog Try.f13 0 (EX 13 k (nav B13 [2,2,2]) (⟨114,[(1,.ptr 1 0),(85,.p (.bool x85))],[(1,.box 39 [.p (.int .i64 m1),.p (.int .i64 m1_1),.p (.int .u32 m1_2),.p (.int .i64 m1_3),.p (.int .i64 m1_4),.p (.int .i64 m1_5),.p (.int .i64 m1_6),.p (.int .i64 m1_7),.p (.int .i64 m1_8),.p (.int .i64 m1_9),.sl 1 (rowsOf (encI .u8) m1_10)])]⟩ : St)) = some r.st := by
 unfold f13_ai10rz_j2 at hF
 simp (maxSteps:=999999) (disch:=first|exact D (by decide)|exact K (by kernel_rfl)) only [E,EE,↓reduceIte,simprocAttr,xk B13 [2,2,2] .sq rfl,rg B13 [1,2,2,2] 5 false rfl,hr_13_5,fieldAddrV,t_39,t_29]
 rcases cond_some hF with ⟨h1,hF⟩ | ⟨h1,hF⟩
 ·simp (maxSteps:=999999) (disch:=first|exact D (by decide)|exact K (by kernel_rfl)) only [E,EE,↓reduceIte,simprocAttr,fieldAddrV,t_39,t_29,t_3,h1]
  rcases cond_some hF with ⟨h2,hF⟩ | ⟨h2,hF⟩
  ·simp (maxSteps:=999999) (disch:=first|exact D (by decide)|exact K (by kernel_rfl)) only [E,EE,↓reduceIte,simprocAttr,fieldAddrV,t_39,t_3,h1,h2]
   rcases cond_some hF with ⟨h3,hF⟩ | ⟨h3,hF⟩
   ·cases hF
    simp (maxSteps:=999999) (disch:=first|exact D (by decide)|exact K (by kernel_rfl)) only [E,EE,↓reduceIte,simprocAttr,fieldAddrV,t_39,t_3,t_29,xk B13 [2,2,2,2] .rt rfl,finK_norm,finK_ret,fin13,R13_ai10rz.st,h1,h2,h3]
   ·cases hF
    simp (maxSteps:=999999) (disch:=first|exact D (by decide)|exact K (by kernel_rfl)) only [E,EE,↓reduceIte,simprocAttr,xk B13 [2,2,2,2] .rt rfl,finK_norm,finK_ret,fin13,R13_ai10rz.st,h1,h2,h3]
  ·cases hF
   simp (maxSteps:=999999) (disch:=first|exact D (by decide)|exact K (by kernel_rfl)) only [E,EE,↓reduceIte,simprocAttr,xk B13 [2,2,2,2] .rt rfl,finK_norm,finK_ret,fin13,R13_ai10rz.st,h1,h2]
 ·cases hF
  simp (maxSteps:=999999) (disch:=first|exact D (by decide)|exact K (by kernel_rfl)) only [E,EE,↓reduceIte,simprocAttr,xk B13 [2,2,2,2] .rt rfl,finK_norm,finK_ret,fin13,R13_ai10rz.st,h1]
noncomputable def f13_ai10rz_j1 (k:Nat) (x45:Bool) (m1 m1_1 m1_2 m1_3 m1_4 m1_5 m1_6 m1_7 m1_8 m1_9:Int) (m1_10:List Int) : Option R13_ai10rz :=
 cond ((decide (m1_5 < 1)))
  (some (R13_ai10rz.o0 false))
  (
   cond ((decide (m1_5 > 16)))
    (some (R13_ai10rz.o0 false))
    (
     cond ((decide (m1_6 < 0)))
      (some (R13_ai10rz.o0 false))
      (
       cond ((decide (m1_6 > m1_5)))
        (some (R13_ai10rz.o0 false))
        (
         cond ((decide (m1_7 < 0)))
          (some (R13_ai10rz.o0 false))
          (
           cond ((decide (m1_7 > 2)))
            (some (R13_ai10rz.o0 false))
            (
             cond ((decide (m1_9 < 1)))
              (some (R13_ai10rz.o0 false))
              (
               cond ((decide (m1_9 > 400)))
                (some (R13_ai10rz.o0 false))
                (f13_ai10rz_j2 k false m1 m1_1 m1_2 m1_3 m1_4 m1_5 m1_6 m1_7 m1_8 m1_9 m1_10))))))))
theorem f13_ai10rz_j1_ok (k:Nat) (x45:Bool) (m1 m1_1 m1_2 m1_3 m1_4 m1_5 m1_6 m1_7 m1_8 m1_9:Int) (m1_10:List Int) (r:R13_ai10rz) (hF:f13_ai10rz_j1 k x45 m1 m1_1 m1_2 m1_3 m1_4 m1_5 m1_6 m1_7 m1_8 m1_9 m1_10 = some r) : finK Try.prog Try.f13 0 (EX 13 k (nav B13 [2,2]) (⟨114,[(1,.ptr 1 0),(45,.p (.bool x45))],[(1,.box 39 [.p (.int .i64 m1),.p (.int .i64 m1_1),.p (.int .u32 m1_2),.p (.int .i64 m1_3),.p (.int .i64 m1_4),.p (.int .i64 m1_5),.p (.int .i64 m1_6),.p (.int .i64 m1_7),.p (.int .i64 m1_8),.p (.int .i64 m1_9),.sl 1 (rowsOf (encI .u8) m1_10)])]⟩ : St)) = some r.st := by
 unfold f13_ai10rz_j1 at hF
 simp (maxSteps:=999999) (disch:=first|exact D (by decide)|exact K (by kernel_rfl)) only [E,EE,↓reduceIte,simprocAttr,xk B13 [2,2] .sq rfl,xk B13 [1,2,2] .sq rfl,rg B13 [1,1,2,2] 3 false rfl,hr_13_3,fieldAddrV,t_39,t_3]
 rcases cond_some hF with ⟨h1,hF⟩ | ⟨h1,hF⟩
 ·cases hF
  simp (maxSteps:=999999) (disch:=first|exact D (by decide)|exact K (by kernel_rfl)) only [E,EE,↓reduceIte,simprocAttr,xk B13 [2,1,2,2] (.cd 85) rfl,xk B13 [2,2,1,2,2] .sq rfl,rg B13 [1,2,2,1,2,2] 4 false rfl,hr_13_4,xk B13 [2,2,2,1,2,2] .rt rfl,finK_norm,finK_ret,fin13,R13_ai10rz.st,h1]
 ·simp (maxSteps:=999999) (disch:=first|exact D (by decide)|exact K (by kernel_rfl)) only [E,EE,↓reduceIte,simprocAttr,fieldAddrV,t_39,t_3,h1]
  rcases cond_some hF with ⟨h2,hF⟩ | ⟨h2,hF⟩
  ·cases hF
   simp (maxSteps:=999999) (disch:=first|exact D (by decide)|exact K (by kernel_rfl)) only [E,EE,↓reduceIte,simprocAttr,xk B13 [2,1,2,2] (.cd 85) rfl,xk B13 [2,2,1,2,2] .sq rfl,rg B13 [1,2,2,1,2,2] 4 false rfl,hr_13_4,xk B13 [2,2,2,1,2,2] .rt rfl,finK_norm,finK_ret,fin13,R13_ai10rz.st,h1,h2]
  ·simp (maxSteps:=999999) (disch:=first|exact D (by decide)|exact K (by kernel_rfl)) only [E,EE,↓reduceIte,simprocAttr,fieldAddrV,t_39,t_3,h1,h2]
   rcases cond_some hF with ⟨h3,hF⟩ | ⟨h3,hF⟩
   ·cases hF
    simp (maxSteps:=999999) (disch:=first|exact D (by decide)|exact K (by kernel_rfl)) only [E,EE,↓reduceIte,simprocAttr,xk B13 [2,1,2,2] (.cd 85) rfl,xk B13 [2,2,1,2,2] .sq rfl,rg B13 [1,2,2,1,2,2] 4 false rfl,hr_13_4,xk B13 [2,2,2,1,2,2] .rt rfl,finK_norm,finK_ret,fin13,R13_ai10rz.st,h1,h2,h3]
   ·simp (maxSteps:=999999) (disch:=first|exact D (by decide)|exact K (by kernel_rfl)) only [E,EE,↓reduceIte,simprocAttr,fieldAddrV,t_39,t_3,h1,h2,h3]
    rcases cond_some hF with ⟨h4,hF⟩ | ⟨h4,hF⟩
    ·cases hF
     simp (maxSteps:=999999) (disch:=first|exact D (by decide)|exact K (by kernel_rfl)) only [E,EE,↓reduceIte,simprocAttr,xk B13 [2,1,2,2] (.cd 85) rfl,xk B13 [2,2,1,2,2] .sq rfl,rg B13 [1,2,2,1,2,2] 4 false rfl,hr_13_4,xk B13 [2,2,2,1,2,2] .rt rfl,finK_norm,finK_ret,fin13,R13_ai10rz.st,h1,h2,h3,h4]
    ·simp (maxSteps:=999999) (disch:=first|exact D (by decide)|exact K (by kernel_rfl)) only [E,EE,↓reduceIte,simprocAttr,fieldAddrV,t_39,t_3,h1,h2,h3,h4]
     rcases cond_some hF with ⟨h5,hF⟩ | ⟨h5,hF⟩
     ·cases hF
      simp (maxSteps:=999999) (disch:=first|exact D (by decide)|exact K (by kernel_rfl)) only [E,EE,↓reduceIte,simprocAttr,xk B13 [2,1,2,2] (.cd 85) rfl,xk B13 [2,2,1,2,2] .sq rfl,rg B13 [1,2,2,1,2,2] 4 false rfl,hr_13_4,xk B13 [2,2,2,1,2,2] .rt rfl,finK_norm,finK_ret,fin13,R13_ai10rz.st,h1,h2,h3,h4,h5]
     ·simp (maxSteps:=999999) (disch:=first|exact D (by decide)|exact K (by kernel_rfl)) only [E,EE,↓reduceIte,simprocAttr,fieldAddrV,t_39,t_3,h1,h2,h3,h4,h5]
      rcases cond_some hF with ⟨h6,hF⟩ | ⟨h6,hF⟩
      ·cases hF
       simp (maxSteps:=999999) (disch:=first|exact D (by decide)|exact K (by kernel_rfl)) only [E,EE,↓reduceIte,simprocAttr,xk B13 [2,1,2,2] (.cd 85) rfl,xk B13 [2,2,1,2,2] .sq rfl,rg B13 [1,2,2,1,2,2] 4 false rfl,hr_13_4,xk B13 [2,2,2,1,2,2] .rt rfl,finK_norm,finK_ret,fin13,R13_ai10rz.st,h1,h2,h3,h4,h5,h6]
      ·simp (maxSteps:=999999) (disch:=first|exact D (by decide)|exact K (by kernel_rfl)) only [E,EE,↓reduceIte,simprocAttr,fieldAddrV,t_39,t_3,h1,h2,h3,h4,h5,h6]
       rcases cond_some hF with ⟨h7,hF⟩ | ⟨h7,hF⟩
       ·cases hF
        simp (maxSteps:=999999) (disch:=first|exact D (by decide)|exact K (by kernel_rfl)) only [E,EE,↓reduceIte,simprocAttr,xk B13 [2,1,2,2] (.cd 85) rfl,xk B13 [2,2,1,2,2] .sq rfl,rg B13 [1,2,2,1,2,2] 4 false rfl,hr_13_4,xk B13 [2,2,2,1,2,2] .rt rfl,finK_norm,finK_ret,fin13,R13_ai10rz.st,h1,h2,h3,h4,h5,h6,h7]
       ·simp (maxSteps:=999999) (disch:=first|exact D (by decide)|exact K (by kernel_rfl)) only [E,EE,↓reduceIte,simprocAttr,fieldAddrV,t_39,t_3,xk B13 [2,1,2,2] (.cd 85) rfl,h1,h2,h3,h4,h5,h6,h7]
        rcases cond_some hF with ⟨h8,hF⟩ | ⟨h8,hF⟩
        ·cases hF
         simp (maxSteps:=999999) (disch:=first|exact D (by decide)|exact K (by kernel_rfl)) only [E,EE,↓reduceIte,simprocAttr,xk B13 [2,2,1,2,2] .sq rfl,rg B13 [1,2,2,1,2,2] 4 false rfl,hr_13_4,xk B13 [2,2,2,1,2,2] .rt rfl,finK_norm,finK_ret,fin13,R13_ai10rz.st,h1,h2,h3,h4,h5,h6,h7,h8]
        ·have hJ := f13_ai10rz_j2_ok k false m1 m1_1 m1_2 m1_3 m1_4 m1_5 m1_6 m1_7 m1_8 m1_9 m1_10 _ hF
         simp (maxSteps:=999999) (disch:=first|exact D (by decide)|exact K (by kernel_rfl)) only [E,EE,↓reduceIte,simprocAttr,xk B13 [3,2,1,2,2] .sk rfl,h1,h2,h3,h4,h5,h6,h7,h8]
         try simp only [NM,EE] at hJ
         exact hJ
noncomputable def f13_ai10rz_e (k:Nat) (a0 a0_1 a0_2 a0_3 a0_4 a0_5 a0_6 a0_7 a0_8 a0_9:Int) (a0_10:List Int) : Option R13_ai10rz :=
 cond ((decide (a0 < 1)))
  (some (R13_ai10rz.o0 false))
  (
   cond ((decide (a0 > 6)))
    (some (R13_ai10rz.o0 false))
    (
     cond ((decide (a0_1 < 1)))
      (some (R13_ai10rz.o0 false))
      (
       cond ((decide (a0_1 > 6)))
        (some (R13_ai10rz.o0 false))
        (
         cond ((a0_2 == 0))
          (some (R13_ai10rz.o0 false))
          (
           cond ((decide (a0_3 < 0)))
            (some (R13_ai10rz.o0 false))
            (
             cond ((decide (a0_3 > 1048576)))
              (some (R13_ai10rz.o0 false))
              (
               cond ((decide (a0_4 < 1)))
                (some (R13_ai10rz.o0 false))
                (
                 cond ((decide (a0_4 > 1048576)))
                  (some (R13_ai10rz.o0 false))
                  (f13_ai10rz_j1 k false a0 a0_1 a0_2 a0_3 a0_4 a0_5 a0_6 a0_7 a0_8 a0_9 a0_10)))))))))
theorem f13_ai10rz_e_ok (k:Nat) (a0 a0_1 a0_2 a0_3 a0_4 a0_5 a0_6 a0_7 a0_8 a0_9:Int) (a0_10:List Int) (r:R13_ai10rz) (hF:f13_ai10rz_e k a0 a0_1 a0_2 a0_3 a0_4 a0_5 a0_6 a0_7 a0_8 a0_9 a0_10 = some r) : finK Try.prog Try.f13 0 (EX 13 k (nav B13 []) (⟨114,[(0,.agg [.p (.int .i64 a0),.p (.int .i64 a0_1),.p (.int .u32 a0_2),.p (.int .i64 a0_3),.p (.int .i64 a0_4),.p (.int .i64 a0_5),.p (.int .i64 a0_6),.p (.int .i64 a0_7),.p (.int .i64 a0_8),.p (.int .i64 a0_9),.sl 1 (rowsOf (encI .u8) a0_10)])],[]⟩ : St)) = some r.st := by
 unfold f13_ai10rz_e at hF
 simp (maxSteps:=999999) (disch:=first|exact D (by decide)|exact K (by kernel_rfl)) only [E,EE,↓reduceIte,simprocAttr,xk B13 [] .sq rfl,rg B13 [1] 0 false rfl,hr_13_0,xk B13 [2] .sq rfl,xk B13 [1,2] .sq rfl,rg B13 [1,1,2] 1 false rfl,hr_13_1,fieldAddrV,t_39,t_3]
 rcases cond_some hF with ⟨h1,hF⟩ | ⟨h1,hF⟩
 ·cases hF
  simp (maxSteps:=999999) (disch:=first|exact D (by decide)|exact K (by kernel_rfl)) only [E,EE,↓reduceIte,simprocAttr,xk B13 [2,1,2] (.cd 45) rfl,xk B13 [2,2,1,2] .sq rfl,rg B13 [1,2,2,1,2] 2 false rfl,hr_13_2,xk B13 [2,2,2,1,2] .rt rfl,finK_norm,finK_ret,fin13,R13_ai10rz.st,h1]
 ·simp (maxSteps:=999999) (disch:=first|exact D (by decide)|exact K (by kernel_rfl)) only [E,EE,↓reduceIte,simprocAttr,fieldAddrV,t_39,t_3,h1]
  rcases cond_some hF with ⟨h2,hF⟩ | ⟨h2,hF⟩
  ·cases hF
   simp (maxSteps:=999999) (disch:=first|exact D (by decide)|exact K (by kernel_rfl)) only [E,EE,↓reduceIte,simprocAttr,xk B13 [2,1,2] (.cd 45) rfl,xk B13 [2,2,1,2] .sq rfl,rg B13 [1,2,2,1,2] 2 false rfl,hr_13_2,xk B13 [2,2,2,1,2] .rt rfl,finK_norm,finK_ret,fin13,R13_ai10rz.st,h1,h2]
  ·simp (maxSteps:=999999) (disch:=first|exact D (by decide)|exact K (by kernel_rfl)) only [E,EE,↓reduceIte,simprocAttr,fieldAddrV,t_39,t_3,h1,h2]
   rcases cond_some hF with ⟨h3,hF⟩ | ⟨h3,hF⟩
   ·cases hF
    simp (maxSteps:=999999) (disch:=first|exact D (by decide)|exact K (by kernel_rfl)) only [E,EE,↓reduceIte,simprocAttr,xk B13 [2,1,2] (.cd 45) rfl,xk B13 [2,2,1,2] .sq rfl,rg B13 [1,2,2,1,2] 2 false rfl,hr_13_2,xk B13 [2,2,2,1,2] .rt rfl,finK_norm,finK_ret,fin13,R13_ai10rz.st,h1,h2,h3]
   ·simp (maxSteps:=999999) (disch:=first|exact D (by decide)|exact K (by kernel_rfl)) only [E,EE,↓reduceIte,simprocAttr,fieldAddrV,t_39,t_3,h1,h2,h3]
    rcases cond_some hF with ⟨h4,hF⟩ | ⟨h4,hF⟩
    ·cases hF
     simp (maxSteps:=999999) (disch:=first|exact D (by decide)|exact K (by kernel_rfl)) only [E,EE,↓reduceIte,simprocAttr,xk B13 [2,1,2] (.cd 45) rfl,xk B13 [2,2,1,2] .sq rfl,rg B13 [1,2,2,1,2] 2 false rfl,hr_13_2,xk B13 [2,2,2,1,2] .rt rfl,finK_norm,finK_ret,fin13,R13_ai10rz.st,h1,h2,h3,h4]
    ·simp (maxSteps:=999999) (disch:=first|exact D (by decide)|exact K (by kernel_rfl)) only [E,EE,↓reduceIte,simprocAttr,fieldAddrV,t_39,t_22,h1,h2,h3,h4]
     rcases cond_some hF with ⟨h5,hF⟩ | ⟨h5,hF⟩
     ·cases hF
      simp (maxSteps:=999999) (disch:=first|exact D (by decide)|exact K (by kernel_rfl)) only [E,EE,↓reduceIte,simprocAttr,xk B13 [2,1,2] (.cd 45) rfl,xk B13 [2,2,1,2] .sq rfl,rg B13 [1,2,2,1,2] 2 false rfl,hr_13_2,xk B13 [2,2,2,1,2] .rt rfl,finK_norm,finK_ret,fin13,R13_ai10rz.st,h1,h2,h3,h4,h5]
     ·simp (maxSteps:=999999) (disch:=first|exact D (by decide)|exact K (by kernel_rfl)) only [E,EE,↓reduceIte,simprocAttr,fieldAddrV,t_39,t_3,h1,h2,h3,h4,h5]
      rcases cond_some hF with ⟨h6,hF⟩ | ⟨h6,hF⟩
      ·cases hF
       simp (maxSteps:=999999) (disch:=first|exact D (by decide)|exact K (by kernel_rfl)) only [E,EE,↓reduceIte,simprocAttr,xk B13 [2,1,2] (.cd 45) rfl,xk B13 [2,2,1,2] .sq rfl,rg B13 [1,2,2,1,2] 2 false rfl,hr_13_2,xk B13 [2,2,2,1,2] .rt rfl,finK_norm,finK_ret,fin13,R13_ai10rz.st,h1,h2,h3,h4,h5,h6]
      ·simp (maxSteps:=999999) (disch:=first|exact D (by decide)|exact K (by kernel_rfl)) only [E,EE,↓reduceIte,simprocAttr,fieldAddrV,t_39,t_3,h1,h2,h3,h4,h5,h6]
       rcases cond_some hF with ⟨h7,hF⟩ | ⟨h7,hF⟩
       ·cases hF
        simp (maxSteps:=999999) (disch:=first|exact D (by decide)|exact K (by kernel_rfl)) only [E,EE,↓reduceIte,simprocAttr,xk B13 [2,1,2] (.cd 45) rfl,xk B13 [2,2,1,2] .sq rfl,rg B13 [1,2,2,1,2] 2 false rfl,hr_13_2,xk B13 [2,2,2,1,2] .rt rfl,finK_norm,finK_ret,fin13,R13_ai10rz.st,h1,h2,h3,h4,h5,h6,h7]
       ·simp (maxSteps:=999999) (disch:=first|exact D (by decide)|exact K (by kernel_rfl)) only [E,EE,↓reduceIte,simprocAttr,fieldAddrV,t_39,t_3,h1,h2,h3,h4,h5,h6,h7]
        rcases cond_some hF with ⟨h8,hF⟩ | ⟨h8,hF⟩
        ·cases hF
         simp (maxSteps:=999999) (disch:=first|exact D (by decide)|exact K (by kernel_rfl)) only [E,EE,↓reduceIte,simprocAttr,xk B13 [2,1,2] (.cd 45) rfl,xk B13 [2,2,1,2] .sq rfl,rg B13 [1,2,2,1,2] 2 false rfl,hr_13_2,xk B13 [2,2,2,1,2] .rt rfl,finK_norm,finK_ret,fin13,R13_ai10rz.st,h1,h2,h3,h4,h5,h6,h7,h8]
        ·simp (maxSteps:=999999) (disch:=first|exact D (by decide)|exact K (by kernel_rfl)) only [E,EE,↓reduceIte,simprocAttr,fieldAddrV,t_39,t_3,xk B13 [2,1,2] (.cd 45) rfl,h1,h2,h3,h4,h5,h6,h7,h8]
         rcases cond_some hF with ⟨h9,hF⟩ | ⟨h9,hF⟩
         ·cases hF
          simp (maxSteps:=999999) (disch:=first|exact D (by decide)|exact K (by kernel_rfl)) only [E,EE,↓reduceIte,simprocAttr,xk B13 [2,2,1,2] .sq rfl,rg B13 [1,2,2,1,2] 2 false rfl,hr_13_2,xk B13 [2,2,2,1,2] .rt rfl,finK_norm,finK_ret,fin13,R13_ai10rz.st,h1,h2,h3,h4,h5,h6,h7,h8,h9]
         ·have hJ := f13_ai10rz_j1_ok k false a0 a0_1 a0_2 a0_3 a0_4 a0_5 a0_6 a0_7 a0_8 a0_9 a0_10 _ hF
          simp (maxSteps:=999999) (disch:=first|exact D (by decide)|exact K (by kernel_rfl)) only [E,EE,↓reduceIte,simprocAttr,xk B13 [3,2,1,2] .sk rfl,h1,h2,h3,h4,h5,h6,h7,h8,h9]
          try simp only [NM,EE] at hJ
          exact hJ
noncomputable def f13_ai10rz (k:Nat) (a0 a0_1 a0_2 a0_3 a0_4 a0_5 a0_6 a0_7 a0_8 a0_9:Int) (a0_10:List Int) : Option R13_ai10rz := match k with | 0 => none | k + 1 => f13_ai10rz_e k a0 a0_1 a0_2 a0_3 a0_4 a0_5 a0_6 a0_7 a0_8 a0_9 a0_10
theorem f13_ai10rz_ok (k:Nat) (a0 a0_1 a0_2 a0_3 a0_4 a0_5 a0_6 a0_7 a0_8 a0_9:Int) (a0_10:List Int) (r:R13_ai10rz) (hF:f13_ai10rz k a0 a0_1 a0_2 a0_3 a0_4 a0_5 a0_6 a0_7 a0_8 a0_9 a0_10 = some r) : CV k 13 [.agg [.p (.int .i64 a0),.p (.int .i64 a0_1),.p (.int .u32 a0_2),.p (.int .i64 a0_3),.p (.int .i64 a0_4),.p (.int .i64 a0_5),.p (.int .i64 a0_6),.p (.int .i64 a0_7),.p (.int .i64 a0_8),.p (.int .i64 a0_9),.sl 1 (rowsOf (encI .u8) a0_10)]] [] = some r.st := by
 cases k with
 | zero => cases hF
 | succ k =>
  unfold CV
  rw [ev_call (F := Try.f13) (c := (nav B13 [])) rfl Try.func13 rfl rfl rfl rfl]
  exact f13_ai10rz_e_ok k a0 a0_1 a0_2 a0_3 a0_4 a0_5 a0_6 a0_7 a0_8 a0_9 a0_10 r hF
-- f29_rai10rz: f29 heliograph/heliographref19.Of
inductive R29_rai10rz where
 | o0 (y:List T39)
noncomputable def R29_rai10rz.st : R29_rai10rz → V × List O × List O
 | .o0 y => (.own 2000000,[],[.row true 11 39 (rowsOf encT39 y)])
inductive R29_rai10rz_l1 where
 | o0 (y:List T39) (y_1 y_2 y_3 y_4 y_5 y_6 y_7 y_8 y_9 y_10 y_11:Int) (y_12:List Int) (y_13:List T39)
 | o1 (y:List T39) (y_1 y_2 y_3 y_4 y_5 y_6 y_7 y_8 y_9 y_10 y_11:Int) (y_12:List Int) (y_13:List T39)
 | o2 (y:List T39) (y_1:Int) (y_2:Bool) (y_3 y_4 y_5 y_6 y_7 y_8 y_9 y_10 y_11 y_12:Int) (y_13:List Int) (y_14:List T39)
noncomputable def R29_rai10rz_l1.st : R29_rai10rz_l1 → Out × St
 | .o0 y y_1 y_2 y_3 y_4 y_5 y_6 y_7 y_8 y_9 y_10 y_11 y_12 y_13 => (.norm,(⟨39,[(0,.sl 11 (rowsOf encT39 y)),(3,.ptr 30000 0),(5,.own 37),(6,.p (.int .i64 y_1))],[(30000,.box 39 [.p (.int .i64 y_2),.p (.int .i64 y_3),.p (.int .u32 y_4),.p (.int .i64 y_5),.p (.int .i64 y_6),.p (.int .i64 y_7),.p (.int .i64 y_8),.p (.int .i64 y_9),.p (.int .i64 y_10),.p (.int .i64 y_11),.sl 1 (rowsOf (encI .u8) y_12)]),(37,.row true 11 39 (rowsOf encT39 y_13))]⟩ : St))
 | .o1 y y_1 y_2 y_3 y_4 y_5 y_6 y_7 y_8 y_9 y_10 y_11 y_12 y_13 => (.norm,(⟨39,[(0,.sl 11 (rowsOf encT39 y)),(3,.ptr 30000 0),(5,.own 30001),(6,.p (.int .i64 y_1))],[(30000,.box 39 [.p (.int .i64 y_2),.p (.int .i64 y_3),.p (.int .u32 y_4),.p (.int .i64 y_5),.p (.int .i64 y_6),.p (.int .i64 y_7),.p (.int .i64 y_8),.p (.int .i64 y_9),.p (.int .i64 y_10),.p (.int .i64 y_11),.sl 1 (rowsOf (encI .u8) y_12)]),(30001,.row true 11 39 (rowsOf encT39 y_13))]⟩ : St))
 | .o2 y y_1 y_2 y_3 y_4 y_5 y_6 y_7 y_8 y_9 y_10 y_11 y_12 y_13 y_14 => (.exit 0,(⟨39,[(0,.sl 11 (rowsOf encT39 y)),(3,.ptr 30000 0),(5,.own 30001),(6,.p (.int .i64 y_1)),(10,.p (.bool y_2))],[(30000,.box 39 [.p (.int .i64 y_3),.p (.int .i64 y_4),.p (.int .u32 y_5),.p (.int .i64 y_6),.p (.int .i64 y_7),.p (.int .i64 y_8),.p (.int .i64 y_9),.p (.int .i64 y_10),.p (.int .i64 y_11),.p (.int .i64 y_12),.sl 1 (rowsOf (encI .u8) y_13)]),(30001,.row true 11 39 (rowsOf encT39 y_14))]⟩ : St))
noncomputable def f29_rai10rz_l1_j2 (k:Nat) (x0:List T39) (x6 h0_ h0__1 h0__2 h0__3 h0__4 h0__5 h0__6 h0__7 h0__8 h0__9:Int) (h0__10:List Int) (m37:List T39) : Option R29_rai10rz_l1 :=
 some (R29_rai10rz_l1.o0 x0 (IntKind.i64.wrap (x6 + (1:Int))) h0_ h0__1 h0__2 h0__3 h0__4 h0__5 h0__6 h0__7 h0__8 h0__9 h0__10 m37)
theorem f29_rai10rz_l1_j2_ok (k:Nat) (x0:List T39) (x6 h0_ h0__1 h0__2 h0__3 h0__4 h0__5 h0__6 h0__7 h0__8 h0__9:Int) (h0__10:List Int) (m37:List T39) (r:R29_rai10rz_l1) (hF:f29_rai10rz_l1_j2 k x0 x6 h0_ h0__1 h0__2 h0__3 h0__4 h0__5 h0__6 h0__7 h0__8 h0__9 h0__10 m37 = some r) : EX 29 k (nav B29 [2,2,1,2,2,1,2,2]) (⟨39,[(0,.sl 11 (rowsOf encT39 x0)),(3,.ptr 30000 0),(5,.own 37),(6,.p (.int .i64 x6))],[(30000,.box 39 [.p (.int .i64 h0_),.p (.int .i64 h0__1),.p (.int .u32 h0__2),.p (.int .i64 h0__3),.p (.int .i64 h0__4),.p (.int .i64 h0__5),.p (.int .i64 h0__6),.p (.int .i64 h0__7),.p (.int .i64 h0__8),.p (.int .i64 h0__9),.sl 1 (rowsOf (encI .u8) h0__10)]),(37,.row true 11 39 (rowsOf encT39 m37))]⟩ : St) = some r.st := by
 unfold f29_rai10rz_l1_j2 at hF
 cases hF
 simp (maxSteps:=999999) (disch:=first|exact D (by decide)|exact K (by kernel_rfl)) only [E,EE,↓reduceIte,simprocAttr,rg B29 [2,2,1,2,2,1,2,2] 4 false rfl,hr_29_4,R29_rai10rz_l1.st]
noncomputable def f29_rai10rz_l1_j3 (k:Nat) (x0:List T39) (x6:Int) (x30:Bool) (h0_ h0__1 h0__2 h0__3 h0__4 h0__5 h0__6 h0__7 h0__8 h0__9:Int) (h0__10:List Int) (h1_:List T39) : Option R29_rai10rz_l1 :=
 some (R29_rai10rz_l1.o1 x0 (IntKind.i64.wrap (x6 + (1:Int))) h0_ h0__1 h0__2 h0__3 h0__4 h0__5 h0__6 h0__7 h0__8 h0__9 h0__10 h1_)
theorem f29_rai10rz_l1_j3_ok (k:Nat) (x0:List T39) (x6:Int) (x30:Bool) (h0_ h0__1 h0__2 h0__3 h0__4 h0__5 h0__6 h0__7 h0__8 h0__9:Int) (h0__10:List Int) (h1_:List T39) (r:R29_rai10rz_l1) (hF:f29_rai10rz_l1_j3 k x0 x6 x30 h0_ h0__1 h0__2 h0__3 h0__4 h0__5 h0__6 h0__7 h0__8 h0__9 h0__10 h1_ = some r) : EX 29 k (nav B29 [2,2,1,2,2,1,2,2]) (⟨39,[(0,.sl 11 (rowsOf encT39 x0)),(3,.ptr 30000 0),(5,.own 30001),(6,.p (.int .i64 x6)),(30,.p (.bool x30))],[(30000,.box 39 [.p (.int .i64 h0_),.p (.int .i64 h0__1),.p (.int .u32 h0__2),.p (.int .i64 h0__3),.p (.int .i64 h0__4),.p (.int .i64 h0__5),.p (.int .i64 h0__6),.p (.int .i64 h0__7),.p (.int .i64 h0__8),.p (.int .i64 h0__9),.sl 1 (rowsOf (encI .u8) h0__10)]),(30001,.row true 11 39 (rowsOf encT39 h1_))]⟩ : St) = some r.st := by
 unfold f29_rai10rz_l1_j3 at hF
 cases hF
 simp (maxSteps:=999999) (disch:=first|exact D (by decide)|exact K (by kernel_rfl)) only [E,EE,↓reduceIte,simprocAttr,rg B29 [2,2,1,2,2,1,2,2] 4 false rfl,hr_29_4,R29_rai10rz_l1.st]
noncomputable def f29_rai10rz_l1_j1 (k:Nat) (x0:List T39) (x6:Int) (x10:Bool) (h0_ h0__1 h0__2 h0__3 h0__4 h0__5 h0__6 h0__7 h0__8 h0__9:Int) (h0__10:List Int) (h1_:List T39) : Option R29_rai10rz_l1 :=
 ifE ((0:Int) ≤ x6) (
  Option.bind (x0[(Int.toNat x6)]?) fun v2 =>
   cond ((v2.Source == h0_))
    (
     cond ((v2.Seq == h0__2))
      (
       ifE (((List.length h1_) + 1) * 104 ≤ roomy) (
        f29_rai10rz_l1_j2 k x0 x6 h0_ h0__1 h0__2 h0__3 h0__4 h0__5 h0__6 h0__7 h0__8 h0__9 h0__10 (h1_ ++ ([v2] : List T39))))
      (f29_rai10rz_l1_j3 k x0 x6 false h0_ h0__1 h0__2 h0__3 h0__4 h0__5 h0__6 h0__7 h0__8 h0__9 h0__10 h1_))
    (f29_rai10rz_l1_j3 k x0 x6 false h0_ h0__1 h0__2 h0__3 h0__4 h0__5 h0__6 h0__7 h0__8 h0__9 h0__10 h1_))
theorem f29_rai10rz_l1_j1_ok (k:Nat) (x0:List T39) (x6:Int) (x10:Bool) (h0_ h0__1 h0__2 h0__3 h0__4 h0__5 h0__6 h0__7 h0__8 h0__9:Int) (h0__10:List Int) (h1_:List T39) (r:R29_rai10rz_l1) (hF:f29_rai10rz_l1_j1 k x0 x6 x10 h0_ h0__1 h0__2 h0__3 h0__4 h0__5 h0__6 h0__7 h0__8 h0__9 h0__10 h1_ = some r) : EX 29 k (nav B29 [2,1,2,2,1,2,2]) (⟨39,[(0,.sl 11 (rowsOf encT39 x0)),(3,.ptr 30000 0),(5,.own 30001),(6,.p (.int .i64 x6)),(10,.p (.bool x10))],[(30000,.box 39 [.p (.int .i64 h0_),.p (.int .i64 h0__1),.p (.int .u32 h0__2),.p (.int .i64 h0__3),.p (.int .i64 h0__4),.p (.int .i64 h0__5),.p (.int .i64 h0__6),.p (.int .i64 h0__7),.p (.int .i64 h0__8),.p (.int .i64 h0__9),.sl 1 (rowsOf (encI .u8) h0__10)]),(30001,.row true 11 39 (rowsOf encT39 h1_))]⟩ : St) = some r.st := by
 unfold f29_rai10rz_l1_j1 at hF
 obtain ⟨h1,hF⟩ := ifE_some.1 hF
 obtain ⟨v2,h3,hF⟩ := bs hF
 simp (maxSteps:=999999) (disch:=first|exact D (by decide)|exact K (by kernel_rfl)) only [E,EE,↓reduceIte,simprocAttr,xk B29 [2,1,2,2,1,2,2] .sq rfl,xk B29 [1,2,1,2,2,1,2,2] (.bk 1) rfl,xk B29 [2,1,2,1,2,2,1,2,2] .sq rfl,rg B29 [1,2,1,2,1,2,2,1,2,2] 5 true rfl,hr_29_5,indexAddrV,t_24,t_39,encT39_eq,fieldAddrV,t_3,h1,h3]
 rcases cond_some hF with ⟨h4,hF⟩ | ⟨h4,hF⟩
 ·simp (maxSteps:=999999) (disch:=first|exact D (by decide)|exact K (by kernel_rfl)) only [E,EE,↓reduceIte,simprocAttr,indexAddrV,t_24,t_39,encT39_eq,fieldAddrV,t_22,xk B29 [2,2,1,2,1,2,2,1,2,2] (.cd 30) rfl,h1,h3,h4]
  rcases cond_some hF with ⟨h5,hF⟩ | ⟨h5,hF⟩
  ·have q6 : [[.p (.int .i64 v2.Source),.p (.int .i64 v2.Dest),.p (.int .u32 v2.Seq),.p (.int .i64 v2.Created),.p (.int .i64 v2.Lifetime),.p (.int .i64 v2.HopLimit),.p (.int .i64 v2.Hops),.p (.int .i64 v2.Priority),.p (.int .i64 v2.Offset),.p (.int .i64 v2.Total),.sl 1 (rowsOf (encI .u8) v2.Payload)]] = rowsOf encT39 ([v2] : List T39) := rfl
   have q7 : List.map (tell [0,0,0,0,0,0,0,0,0,0,1]) (rowsOf encT39 ([v2] : List T39)) = rowsOf encT39 ([v2] : List T39) := rfl
   obtain ⟨h8,hF⟩ := ifE_some.1 hF
   have hJ := f29_rai10rz_l1_j2_ok k x0 x6 h0_ h0__1 h0__2 h0__3 h0__4 h0__5 h0__6 h0__7 h0__8 h0__9 h0__10 (h1_ ++ ([v2] : List T39)) _ hF
   simp (maxSteps:=999999) (disch:=first|exact D (by decide)|exact K (by kernel_rfl)) only [E,EE,↓reduceIte,simprocAttr,rg B29 [2,2,2,1,2,1,2,2,1,2,2] 6 false rfl,hr_29_6,indexAddrV,t_24,t_39,encT39_eq,buildSliceV,fillRows,sm_39,appendV,content,h1,h3,h4,h5,q6,q7,h8]
   try simp only [NM,EE] at hJ
   exact hJ
  ·have hJ := f29_rai10rz_l1_j3_ok k x0 x6 false h0_ h0__1 h0__2 h0__3 h0__4 h0__5 h0__6 h0__7 h0__8 h0__9 h0__10 h1_ _ hF
   simp (maxSteps:=999999) (disch:=first|exact D (by decide)|exact K (by kernel_rfl)) only [E,EE,↓reduceIte,simprocAttr,xk B29 [3,2,2,1,2,1,2,2,1,2,2] .sk rfl,h1,h3,h4,h5]
   try simp only [NM,EE] at hJ
   exact hJ
 ·have hJ := f29_rai10rz_l1_j3_ok k x0 x6 false h0_ h0__1 h0__2 h0__3 h0__4 h0__5 h0__6 h0__7 h0__8 h0__9 h0__10 h1_ _ hF
  simp (maxSteps:=999999) (disch:=first|exact D (by decide)|exact K (by kernel_rfl)) only [E,EE,↓reduceIte,simprocAttr,xk B29 [2,2,1,2,1,2,2,1,2,2] (.cd 30) rfl,xk B29 [3,2,2,1,2,1,2,2,1,2,2] .sk rfl,h1,h3,h4]
  try simp only [NM,EE] at hJ
  exact hJ
noncomputable def f29_rai10rz_l1_b (k:Nat) (x0:List T39) (x6 h0_ h0__1 h0__2 h0__3 h0__4 h0__5 h0__6 h0__7 h0__8 h0__9:Int) (h0__10:List Int) (h1_:List T39) : Option R29_rai10rz_l1 :=
 cond ((decide (x6 < ((List.length x0) : Int))))
  (f29_rai10rz_l1_j1 k x0 x6 true h0_ h0__1 h0__2 h0__3 h0__4 h0__5 h0__6 h0__7 h0__8 h0__9 h0__10 h1_)
  (some (R29_rai10rz_l1.o2 x0 x6 false h0_ h0__1 h0__2 h0__3 h0__4 h0__5 h0__6 h0__7 h0__8 h0__9 h0__10 h1_))
theorem f29_rai10rz_l1_b_ok (k:Nat) (x0:List T39) (x6 h0_ h0__1 h0__2 h0__3 h0__4 h0__5 h0__6 h0__7 h0__8 h0__9:Int) (h0__10:List Int) (h1_:List T39) (r:R29_rai10rz_l1) (hF:f29_rai10rz_l1_b k x0 x6 h0_ h0__1 h0__2 h0__3 h0__4 h0__5 h0__6 h0__7 h0__8 h0__9 h0__10 h1_ = some r) : EX 29 k (nav B29 [1,2,2,1,2,2]) (⟨39,[(0,.sl 11 (rowsOf encT39 x0)),(3,.ptr 30000 0),(5,.own 30001),(6,.p (.int .i64 x6))],[(30000,.box 39 [.p (.int .i64 h0_),.p (.int .i64 h0__1),.p (.int .u32 h0__2),.p (.int .i64 h0__3),.p (.int .i64 h0__4),.p (.int .i64 h0__5),.p (.int .i64 h0__6),.p (.int .i64 h0__7),.p (.int .i64 h0__8),.p (.int .i64 h0__9),.sl 1 (rowsOf (encI .u8) h0__10)]),(30001,.row true 11 39 (rowsOf encT39 h1_))]⟩ : St) = some r.st := by
 unfold f29_rai10rz_l1_b at hF
 simp (maxSteps:=999999) (disch:=first|exact D (by decide)|exact K (by kernel_rfl)) only [E,EE,↓reduceIte,simprocAttr,xk B29 [1,2,2,1,2,2] .sq rfl,xk B29 [1,1,2,2,1,2,2] .sq rfl,rg B29 [1,1,1,2,2,1,2,2] 3 false rfl,hr_29_3,t_24,xk B29 [2,1,1,2,2,1,2,2] (.cd 10) rfl]
 rcases cond_some hF with ⟨h1,hF⟩ | ⟨h1,hF⟩
 ·have hJ := f29_rai10rz_l1_j1_ok k x0 x6 true h0_ h0__1 h0__2 h0__3 h0__4 h0__5 h0__6 h0__7 h0__8 h0__9 h0__10 h1_ _ hF
  simp (maxSteps:=999999) (disch:=first|exact D (by decide)|exact K (by kernel_rfl)) only [E,EE,↓reduceIte,simprocAttr,xk B29 [2,2,1,1,2,2,1,2,2] .sk rfl,h1]
  try simp only [NM,EE] at hJ
  exact hJ
 ·cases hF
  simp (maxSteps:=999999) (disch:=first|exact D (by decide)|exact K (by kernel_rfl)) only [E,EE,↓reduceIte,simprocAttr,xk B29 [3,2,1,1,2,2,1,2,2] (.ex 0) rfl,R29_rai10rz_l1.st,h1]
noncomputable def f29_rai10rz_l1 (k:Nat) : Nat → (List T39) → Int → Int → Int → Int → Int → Int → Int → Int → Int → Int → Int → (List Int) → (List T39) → Option R29_rai10rz_l1
 | 0,_,_,_,_,_,_,_,_,_,_,_,_,_,_ => none
 | n + 1,x0,x6,h0_,h0__1,h0__2,h0__3,h0__4,h0__5,h0__6,h0__7,h0__8,h0__9,h0__10,h1_ => Option.bind (f29_rai10rz_l1_b k x0 x6 h0_ h0__1 h0__2 h0__3 h0__4 h0__5 h0__6 h0__7 h0__8 h0__9 h0__10 h1_) fun o =>
  match o with
  | .o0 y y_1 y_2 y_3 y_4 y_5 y_6 y_7 y_8 y_9 y_10 y_11 y_12 y_13 => f29_rai10rz_l1 k n y y_1 y_2 y_3 y_4 y_5 y_6 y_7 y_8 y_9 y_10 y_11 y_12 y_13
  | .o1 y y_1 y_2 y_3 y_4 y_5 y_6 y_7 y_8 y_9 y_10 y_11 y_12 y_13 => f29_rai10rz_l1 k n y y_1 y_2 y_3 y_4 y_5 y_6 y_7 y_8 y_9 y_10 y_11 y_12 y_13
  | .o2 y y_1 y_2 y_3 y_4 y_5 y_6 y_7 y_8 y_9 y_10 y_11 y_12 y_13 y_14 => some (.o2 y y_1 y_2 y_3 y_4 y_5 y_6 y_7 y_8 y_9 y_10 y_11 y_12 y_13 y_14)
theorem f29_rai10rz_l1_ok (k n:Nat) : ∀ (x0:List T39) (x6 h0_ h0__1 h0__2 h0__3 h0__4 h0__5 h0__6 h0__7 h0__8 h0__9:Int) (h0__10:List Int) (h1_:List T39) (r:R29_rai10rz_l1) (hF:f29_rai10rz_l1 k n x0 x6 h0_ h0__1 h0__2 h0__3 h0__4 h0__5 h0__6 h0__7 h0__8 h0__9 h0__10 h1_ = some r) (σ:St) (hσ:headR (hints.head 29 3) (hints.canon 29 3) σ = some (⟨39,[(0,.sl 11 (rowsOf encT39 x0)),(3,.ptr 30000 0),(5,.own 30001),(6,.p (.int .i64 x6))],[(30000,.box 39 [.p (.int .i64 h0_),.p (.int .i64 h0__1),.p (.int .u32 h0__2),.p (.int .i64 h0__3),.p (.int .i64 h0__4),.p (.int .i64 h0__5),.p (.int .i64 h0__6),.p (.int .i64 h0__7),.p (.int .i64 h0__8),.p (.int .i64 h0__9),.sl 1 (rowsOf (encI .u8) h0__10)]),(30001,.row true 11 39 (rowsOf encT39 h1_))]⟩ : St)),LP 29 k (nav B29 [1,2,2,1,2,2]) n σ = some r.st := by
 induction n with
 | zero => intro x0 x6 h0_ h0__1 h0__2 h0__3 h0__4 h0__5 h0__6 h0__7 h0__8 h0__9 h0__10 h1_ r hF; cases hF
 | succ n ih =>
  intro x0 x6 h0_ h0__1 h0__2 h0__3 h0__4 h0__5 h0__6 h0__7 h0__8 h0__9 h0__10 h1_ r hF σ hσ
  rw [f29_rai10rz_l1] at hF
  obtain ⟨o,h,hF⟩ := Option.bind_eq_some_iff.1 hF
  have hB := f29_rai10rz_l1_b_ok k x0 x6 h0_ h0__1 h0__2 h0__3 h0__4 h0__5 h0__6 h0__7 h0__8 h0__9 h0__10 h1_ o h
  unfold LP at ih ⊢
  unfold EX at hB
  rw [loopK_succ,show firstReg (nav B29 [1,2,2,1,2,2]) = 3 from rfl,hσ,headK_some,hB]
  cases o with
  | o0 y y_1 y_2 y_3 y_4 y_5 y_6 y_7 y_8 y_9 y_10 y_11 y_12 y_13 =>
   refine ih y y_1 y_2 y_3 y_4 y_5 y_6 y_7 y_8 y_9 y_10 y_11 y_12 y_13 r hF _ ?_
   simp (maxSteps:=999999) (disch:=first|exact D (by decide)|exact K (by kernel_rfl)) only [E,EE,↓reduceIte,simprocAttr,hh_29_3,hc_29_3]
  | o1 y y_1 y_2 y_3 y_4 y_5 y_6 y_7 y_8 y_9 y_10 y_11 y_12 y_13 =>
   refine ih y y_1 y_2 y_3 y_4 y_5 y_6 y_7 y_8 y_9 y_10 y_11 y_12 y_13 r hF _ ?_
   simp (maxSteps:=999999) (disch:=first|exact D (by decide)|exact K (by kernel_rfl)) only [E,EE,↓reduceIte,simprocAttr,hh_29_3,hc_29_3]
  | o2 y y_1 y_2 y_3 y_4 y_5 y_6 y_7 y_8 y_9 y_10 y_11 y_12 y_13 y_14 => cases hF; rfl
noncomputable def f29_rai10rz_j2 (k:Nat) (x0:List T39) (x6:Int) (x10:Bool) (h0_ h0__1 h0__2 h0__3 h0__4 h0__5 h0__6 h0__7 h0__8 h0__9:Int) (h0__10:List Int) (h1_:List T39) : Option R29_rai10rz :=
 some (R29_rai10rz.o0 h1_)
theorem f29_rai10rz_j2_ok (k:Nat) (x0:List T39) (x6:Int) (x10:Bool) (h0_ h0__1 h0__2 h0__3 h0__4 h0__5 h0__6 h0__7 h0__8 h0__9:Int) (h0__10:List Int) (h1_:List T39) (r:R29_rai10rz) (hF:f29_rai10rz_j2 k x0 x6 x10 h0_ h0__1 h0__2 h0__3 h0__4 h0__5 h0__6 h0__7 h0__8 h0__9 h0__10 h1_ = some r) : finK Try.prog Try.f29 0 (EX 29 k (nav B29 [2,2,2]) (⟨39,[(0,.sl 11 (rowsOf encT39 x0)),(3,.ptr 30000 0),(5,.own 30001),(6,.p (.int .i64 x6)),(10,.p (.bool x10))],[(30000,.box 39 [.p (.int .i64 h0_),.p (.int .i64 h0__1),.p (.int .u32 h0__2),.p (.int .i64 h0__3),.p (.int .i64 h0__4),.p (.int .i64 h0__5),.p (.int .i64 h0__6),.p (.int .i64 h0__7),.p (.int .i64 h0__8),.p (.int .i64 h0__9),.sl 1 (rowsOf (encI .u8) h0__10)]),(30001,.row true 11 39 (rowsOf encT39 h1_))]⟩ : St)) = some r.st := by
 unfold f29_rai10rz_j2 at hF
 cases hF
 simp (maxSteps:=999999) (disch:=first|exact D (by decide)|exact K (by kernel_rfl)) only [E,EE,↓reduceIte,simprocAttr,xk B29 [2,2,2] .sq rfl,rg B29 [1,2,2,2] 7 false rfl,hr_29_7,xk B29 [2,2,2,2] .rt rfl,finK_norm,finK_ret,fin29,R29_rai10rz.st]
noncomputable def f29_rai10rz_e (k:Nat) (a0:List T39) (a1 a1_1 a1_2 a1_3 a1_4 a1_5 a1_6 a1_7 a1_8 a1_9:Int) (a1_10:List Int) : Option R29_rai10rz :=
 Option.bind (f29_rai10rz_l1 k k a0 0 a1 a1_1 a1_2 a1_3 a1_4 a1_5 a1_6 a1_7 a1_8 a1_9 a1_10 []) fun o1 =>
  match o1 with
  | .o0 _ _ _ _ _ _ _ _ _ _ _ _ _ _ =>
   none
  | .o1 _ _ _ _ _ _ _ _ _ _ _ _ _ _ =>
   none
  | .o2 v4 v5 v6 v7 v8 v9 v10 v11 v12 v13 v14 v15 v16 v17 v18 =>
   f29_rai10rz_j2 k v4 v5 v6 v7 v8 v9 v10 v11 v12 v13 v14 v15 v16 v17 v18
theorem f29_rai10rz_e_ok (k:Nat) (a0:List T39) (a1 a1_1 a1_2 a1_3 a1_4 a1_5 a1_6 a1_7 a1_8 a1_9:Int) (a1_10:List Int) (r:R29_rai10rz) (hF:f29_rai10rz_e k a0 a1 a1_1 a1_2 a1_3 a1_4 a1_5 a1_6 a1_7 a1_8 a1_9 a1_10 = some r) : finK Try.prog Try.f29 0 (EX 29 k (nav B29 []) (⟨39,[(0,.sl 11 (rowsOf encT39 a0)),(1,.agg [.p (.int .i64 a1),.p (.int .i64 a1_1),.p (.int .u32 a1_2),.p (.int .i64 a1_3),.p (.int .i64 a1_4),.p (.int .i64 a1_5),.p (.int .i64 a1_6),.p (.int .i64 a1_7),.p (.int .i64 a1_8),.p (.int .i64 a1_9),.sl 1 (rowsOf (encI .u8) a1_10)])],[]⟩ : St)) = some r.st := by
 unfold f29_rai10rz_e at hF
 obtain ⟨o1,h2,hF⟩ := bs hF
 have hc3 := f29_rai10rz_l1_ok k k a0 0 a1 a1_1 a1_2 a1_3 a1_4 a1_5 a1_6 a1_7 a1_8 a1_9 a1_10 [] _ h2
 simp (maxSteps:=999999) (disch:=first|exact D (by decide)|exact K (by kernel_rfl)) only [E,EE,↓reduceIte,simprocAttr,xk B29 [] .sq rfl,rg B29 [1] 0 false rfl,hr_29_0,xk B29 [2] .sq rfl,rg B29 [1,2] 1 false rfl,hr_29_1,xk B29 [2,2] .sq rfl,xk B29 [1,2,2] .sq rfl,rg B29 [1,1,2,2] 2 false rfl,hr_29_2,xk B29 [2,1,2,2] (.bk 0) rfl,xk B29 [2,2,1,2,2] .lp rfl,hh_29_3,hc_29_3]
 (try simp only [NM,EE] at hc3)
 rw [hc3 _ (by simp (maxSteps:=999999) (disch:=first|exact D (by decide)|exact K (by kernel_rfl)) only [E,EE,↓reduceIte,simprocAttr,hh_29_3,hc_29_3])]
 clear hc3
 cases o1 with
 | o0 _ _ _ _ _ _ _ _ _ _ _ _ _ _ =>
  (try dsimp only at hF)
  cases hF
 | o1 _ _ _ _ _ _ _ _ _ _ _ _ _ _ =>
  (try dsimp only at hF)
  cases hF
 | o2 v4 v5 v6 v7 v8 v9 v10 v11 v12 v13 v14 v15 v16 v17 v18 =>
  (try dsimp only at hF)
  have hJ := f29_rai10rz_j2_ok k v4 v5 v6 v7 v8 v9 v10 v11 v12 v13 v14 v15 v16 v17 v18 _ hF
  simp (maxSteps:=999999) (disch:=first|exact D (by decide)|exact K (by kernel_rfl)) only [E,EE,↓reduceIte,simprocAttr,R29_rai10rz_l1.st]
  try simp only [NM,EE] at hJ
  exact hJ
noncomputable def f29_rai10rz (k:Nat) (a0:List T39) (a1 a1_1 a1_2 a1_3 a1_4 a1_5 a1_6 a1_7 a1_8 a1_9:Int) (a1_10:List Int) : Option R29_rai10rz := match k with | 0 => none | k + 1 => f29_rai10rz_e k a0 a1 a1_1 a1_2 a1_3 a1_4 a1_5 a1_6 a1_7 a1_8 a1_9 a1_10
theorem f29_rai10rz_ok (k:Nat) (a0:List T39) (a1 a1_1 a1_2 a1_3 a1_4 a1_5 a1_6 a1_7 a1_8 a1_9:Int) (a1_10:List Int) (r:R29_rai10rz) (hF:f29_rai10rz k a0 a1 a1_1 a1_2 a1_3 a1_4 a1_5 a1_6 a1_7 a1_8 a1_9 a1_10 = some r) : CV k 29 [.sl 11 (rowsOf encT39 a0),.agg [.p (.int .i64 a1),.p (.int .i64 a1_1),.p (.int .u32 a1_2),.p (.int .i64 a1_3),.p (.int .i64 a1_4),.p (.int .i64 a1_5),.p (.int .i64 a1_6),.p (.int .i64 a1_7),.p (.int .i64 a1_8),.p (.int .i64 a1_9),.sl 1 (rowsOf (encI .u8) a1_10)]] [] = some r.st := by
 cases k with
 | zero => cases hF
 | succ k =>
  unfold CV
  rw [ev_call (F := Try.f29) (c := (nav B29 [])) rfl Try.func29 rfl rfl rfl rfl]
  exact f29_rai10rz_e_ok k a0 a1 a1_1 a1_2 a1_3 a1_4 a1_5 a1_6 a1_7 a1_8 a1_9 a1_10 r hF
-- f50_ai10rzai10rz: f50 heliograph/heliographref19.same
inductive R50_ai10rzai10rz where
 | o0 (y:Bool)
noncomputable def R50_ai10rzai10rz.st : R50_ai10rzai10rz → V × List O × List O
 | .o0 y => (.p (.bool y),[],[])
noncomputable def f50_ai10rzai10rz_e (k:Nat) (a0 a0_1 a0_2 a0_3 a0_4 a0_5 a0_6 a0_7 a0_8 a0_9:Int) (a0_10:List Int) (a1 a1_1 a1_2 a1_3 a1_4 a1_5 a1_6 a1_7 a1_8 a1_9:Int) (a1_10:List Int) : Option R50_ai10rzai10rz :=
 cond ((a0 == a1))
  (
   cond ((a0_1 == a1_1))
    (
     cond ((a0_2 == a1_2))
      (
       cond ((a0_3 == a1_3))
        (
         cond ((a0_4 == a1_4))
          (
           cond ((a0_5 == a1_5))
            (
             cond ((a0_7 == a1_7))
              (some (R50_ai10rzai10rz.o0 (a0_9 == a1_9)))
              (some (R50_ai10rzai10rz.o0 false)))
            (some (R50_ai10rzai10rz.o0 false)))
          (some (R50_ai10rzai10rz.o0 false)))
        (some (R50_ai10rzai10rz.o0 false)))
      (some (R50_ai10rzai10rz.o0 false)))
    (some (R50_ai10rzai10rz.o0 false)))
  (some (R50_ai10rzai10rz.o0 false))
theorem f50_ai10rzai10rz_e_ok (k:Nat) (a0 a0_1 a0_2 a0_3 a0_4 a0_5 a0_6 a0_7 a0_8 a0_9:Int) (a0_10:List Int) (a1 a1_1 a1_2 a1_3 a1_4 a1_5 a1_6 a1_7 a1_8 a1_9:Int) (a1_10:List Int) (r:R50_ai10rzai10rz) (hF:f50_ai10rzai10rz_e k a0 a0_1 a0_2 a0_3 a0_4 a0_5 a0_6 a0_7 a0_8 a0_9 a0_10 a1 a1_1 a1_2 a1_3 a1_4 a1_5 a1_6 a1_7 a1_8 a1_9 a1_10 = some r) : finK Try.prog Try.f50 0 (EX 50 k (nav B50 []) (⟨59,[(0,.agg [.p (.int .i64 a0),.p (.int .i64 a0_1),.p (.int .u32 a0_2),.p (.int .i64 a0_3),.p (.int .i64 a0_4),.p (.int .i64 a0_5),.p (.int .i64 a0_6),.p (.int .i64 a0_7),.p (.int .i64 a0_8),.p (.int .i64 a0_9),.sl 1 (rowsOf (encI .u8) a0_10)]),(1,.agg [.p (.int .i64 a1),.p (.int .i64 a1_1),.p (.int .u32 a1_2),.p (.int .i64 a1_3),.p (.int .i64 a1_4),.p (.int .i64 a1_5),.p (.int .i64 a1_6),.p (.int .i64 a1_7),.p (.int .i64 a1_8),.p (.int .i64 a1_9),.sl 1 (rowsOf (encI .u8) a1_10)])],[]⟩ : St)) = some r.st := by
 unfold f50_ai10rzai10rz_e at hF
 simp (maxSteps:=999999) (disch:=first|exact D (by decide)|exact K (by kernel_rfl)) only [E,EE,↓reduceIte,simprocAttr,xk B50 [] .sq rfl,rg B50 [1] 0 false rfl,hr_50_0,xk B50 [2] .sq rfl,rg B50 [1,2] 1 false rfl,hr_50_1,fieldAddrV,t_39,t_3]
 rcases cond_some hF with ⟨h1,hF⟩ | ⟨h1,hF⟩
 ·simp (maxSteps:=999999) (disch:=first|exact D (by decide)|exact K (by kernel_rfl)) only [E,EE,↓reduceIte,simprocAttr,fieldAddrV,t_39,t_3,h1]
  rcases cond_some hF with ⟨h2,hF⟩ | ⟨h2,hF⟩
  ·simp (maxSteps:=999999) (disch:=first|exact D (by decide)|exact K (by kernel_rfl)) only [E,EE,↓reduceIte,simprocAttr,fieldAddrV,t_39,t_22,h1,h2]
   rcases cond_some hF with ⟨h3,hF⟩ | ⟨h3,hF⟩
   ·simp (maxSteps:=999999) (disch:=first|exact D (by decide)|exact K (by kernel_rfl)) only [E,EE,↓reduceIte,simprocAttr,fieldAddrV,t_39,t_3,h1,h2,h3]
    rcases cond_some hF with ⟨h4,hF⟩ | ⟨h4,hF⟩
    ·simp (maxSteps:=999999) (disch:=first|exact D (by decide)|exact K (by kernel_rfl)) only [E,EE,↓reduceIte,simprocAttr,fieldAddrV,t_39,t_3,h1,h2,h3,h4]
     rcases cond_some hF with ⟨h5,hF⟩ | ⟨h5,hF⟩
     ·simp (maxSteps:=999999) (disch:=first|exact D (by decide)|exact K (by kernel_rfl)) only [E,EE,↓reduceIte,simprocAttr,fieldAddrV,t_39,t_3,h1,h2,h3,h4,h5]
      rcases cond_some hF with ⟨h6,hF⟩ | ⟨h6,hF⟩
      ·simp (maxSteps:=999999) (disch:=first|exact D (by decide)|exact K (by kernel_rfl)) only [E,EE,↓reduceIte,simprocAttr,fieldAddrV,t_39,t_3,h1,h2,h3,h4,h5,h6]
       rcases cond_some hF with ⟨h7,hF⟩ | ⟨h7,hF⟩
       ·cases hF
        simp (maxSteps:=999999) (disch:=first|exact D (by decide)|exact K (by kernel_rfl)) only [E,EE,↓reduceIte,simprocAttr,fieldAddrV,t_39,t_3,xk B50 [2,2] .rt rfl,finK_norm,finK_ret,fin50,R50_ai10rzai10rz.st,h1,h2,h3,h4,h5,h6,h7]
       ·cases hF
        simp (maxSteps:=999999) (disch:=first|exact D (by decide)|exact K (by kernel_rfl)) only [E,EE,↓reduceIte,simprocAttr,xk B50 [2,2] .rt rfl,finK_norm,finK_ret,fin50,R50_ai10rzai10rz.st,h1,h2,h3,h4,h5,h6,h7]
      ·cases hF
       simp (maxSteps:=999999) (disch:=first|exact D (by decide)|exact K (by kernel_rfl)) only [E,EE,↓reduceIte,simprocAttr,xk B50 [2,2] .rt rfl,finK_norm,finK_ret,fin50,R50_ai10rzai10rz.st,h1,h2,h3,h4,h5,h6]
     ·cases hF
      simp (maxSteps:=999999) (disch:=first|exact D (by decide)|exact K (by kernel_rfl)) only [E,EE,↓reduceIte,simprocAttr,xk B50 [2,2] .rt rfl,finK_norm,finK_ret,fin50,R50_ai10rzai10rz.st,h1,h2,h3,h4,h5]
    ·cases hF
     simp (maxSteps:=999999) (disch:=first|exact D (by decide)|exact K (by kernel_rfl)) only [E,EE,↓reduceIte,simprocAttr,xk B50 [2,2] .rt rfl,finK_norm,finK_ret,fin50,R50_ai10rzai10rz.st,h1,h2,h3,h4]
   ·cases hF
    simp (maxSteps:=999999) (disch:=first|exact D (by decide)|exact K (by kernel_rfl)) only [E,EE,↓reduceIte,simprocAttr,xk B50 [2,2] .rt rfl,finK_norm,finK_ret,fin50,R50_ai10rzai10rz.st,h1,h2,h3]
  ·cases hF
   simp (maxSteps:=999999) (disch:=first|exact D (by decide)|exact K (by kernel_rfl)) only [E,EE,↓reduceIte,simprocAttr,xk B50 [2,2] .rt rfl,finK_norm,finK_ret,fin50,R50_ai10rzai10rz.st,h1,h2]
 ·cases hF
  simp (maxSteps:=999999) (disch:=first|exact D (by decide)|exact K (by kernel_rfl)) only [E,EE,↓reduceIte,simprocAttr,xk B50 [2,2] .rt rfl,finK_norm,finK_ret,fin50,R50_ai10rzai10rz.st,h1]
noncomputable def f50_ai10rzai10rz (k:Nat) (a0 a0_1 a0_2 a0_3 a0_4 a0_5 a0_6 a0_7 a0_8 a0_9:Int) (a0_10:List Int) (a1 a1_1 a1_2 a1_3 a1_4 a1_5 a1_6 a1_7 a1_8 a1_9:Int) (a1_10:List Int) : Option R50_ai10rzai10rz := match k with | 0 => none | k + 1 => f50_ai10rzai10rz_e k a0 a0_1 a0_2 a0_3 a0_4 a0_5 a0_6 a0_7 a0_8 a0_9 a0_10 a1 a1_1 a1_2 a1_3 a1_4 a1_5 a1_6 a1_7 a1_8 a1_9 a1_10
theorem f50_ai10rzai10rz_ok (k:Nat) (a0 a0_1 a0_2 a0_3 a0_4 a0_5 a0_6 a0_7 a0_8 a0_9:Int) (a0_10:List Int) (a1 a1_1 a1_2 a1_3 a1_4 a1_5 a1_6 a1_7 a1_8 a1_9:Int) (a1_10:List Int) (r:R50_ai10rzai10rz) (hF:f50_ai10rzai10rz k a0 a0_1 a0_2 a0_3 a0_4 a0_5 a0_6 a0_7 a0_8 a0_9 a0_10 a1 a1_1 a1_2 a1_3 a1_4 a1_5 a1_6 a1_7 a1_8 a1_9 a1_10 = some r) : CV k 50 [.agg [.p (.int .i64 a0),.p (.int .i64 a0_1),.p (.int .u32 a0_2),.p (.int .i64 a0_3),.p (.int .i64 a0_4),.p (.int .i64 a0_5),.p (.int .i64 a0_6),.p (.int .i64 a0_7),.p (.int .i64 a0_8),.p (.int .i64 a0_9),.sl 1 (rowsOf (encI .u8) a0_10)],.agg [.p (.int .i64 a1),.p (.int .i64 a1_1),.p (.int .u32 a1_2),.p (.int .i64 a1_3),.p (.int .i64 a1_4),.p (.int .i64 a1_5),.p (.int .i64 a1_6),.p (.int .i64 a1_7),.p (.int .i64 a1_8),.p (.int .i64 a1_9),.sl 1 (rowsOf (encI .u8) a1_10)]] [] = some r.st := by
 cases k with
 | zero => cases hF
 | succ k =>
  unfold CV
  rw [ev_call (F := Try.f50) (c := (nav B50 [])) rfl Try.func50 rfl rfl rfl rfl]
  exact f50_ai10rzai10rz_e_ok k a0 a0_1 a0_2 a0_3 a0_4 a0_5 a0_6 a0_7 a0_8 a0_9 a0_10 a1 a1_1 a1_2 a1_3 a1_4 a1_5 a1_6 a1_7 a1_8 a1_9 a1_10 r hF
end Go.Proofs.YticggdfaehneeaaV