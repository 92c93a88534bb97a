/- What the program's functions answer: plain functions,and that the interpreter answers what they do. Written by a program of this session,out of the translation. -/
import Derived.Test.YticggdfaehneeaaVP11
namespace Go.Proofs.YticggdfaehneeaaV
open Go
set_option linter.unusedVariables false
set_option linter.unusedSimpArgs false
set_option maxRecDepth 8000
set_option maxHeartbeats 4000000
-- f11_aiirrz: f11 heliograph/heliographref19.Right
inductive R11_aiirrz where
 | o0 (y:Bool)
noncomputable def R11_aiirrz.st : R11_aiirrz → V × List O × List O
 | .o0 y => (.p (.bool y),[],[])
inductive R11_aiirrz_l2 where
 | o0 (y:Bool)
 | o1 (y y_1 y_2:Int) (y_3:List T65) (y_4:List T39)
 | o2 (y:Int) (y_1:Bool) (y_2 y_3:Int) (y_4:List T65) (y_5:List T39)
noncomputable def R11_aiirrz_l2.st : R11_aiirrz_l2 → Out × St
 | .o0 y => (.ret,(⟨160,[(2,.p (.bool y))],[]⟩ : St))
 | .o1 y y_1 y_2 y_3 y_4 => (.norm,(⟨160,[(1,.ptr 30000 0),(3,.p (.int .i64 y))],[(30000,.box 26 [.p (.int .i64 y_1),.p (.int .u32 y_2),.sl 4 (rowsOf encT65 y_3),.sl 11 (rowsOf encT39 y_4)])]⟩ : St))
 | .o2 y y_1 y_2 y_3 y_4 y_5 => (.exit 0,(⟨160,[(1,.ptr 30000 0),(3,.p (.int .i64 y)),(40,.p (.bool y_1))],[(30000,.box 26 [.p (.int .i64 y_2),.p (.int .u32 y_3),.sl 4 (rowsOf encT65 y_4),.sl 11 (rowsOf encT39 y_5)])]⟩ : St))
noncomputable def f11_aiirrz_l2_j2 (k:Nat) (x3:Int) (x97:Bool) (h0_ h0__1:Int) (h0__2:List T65) (h0__3:List T39) : Option R11_aiirrz_l2 :=
 some (R11_aiirrz_l2.o1 (IntKind.i64.wrap (x3 + (1:Int))) h0_ h0__1 h0__2 h0__3)
theorem f11_aiirrz_l2_j2_ok (k:Nat) (x3:Int) (x97:Bool) (h0_ h0__1:Int) (h0__2:List T65) (h0__3:List T39) (r:R11_aiirrz_l2) (hF:f11_aiirrz_l2_j2 k x3 x97 h0_ h0__1 h0__2 h0__3 = some r) : EX 11 k (nav B11 [2,2,1,2,2,1,2,2]) (⟨160,[(1,.ptr 30000 0),(3,.p (.int .i64 x3)),(97,.p (.bool x97))],[(30000,.box 26 [.p (.int .i64 h0_),.p (.int .u32 h0__1),.sl 4 (rowsOf encT65 h0__2),.sl 11 (rowsOf encT39 h0__3)])]⟩ : St) = some r.st := by
 unfold f11_aiirrz_l2_j2 at hF
 cases hF
 simp (maxSteps:=999999) (disch:=first|exact D (by decide)|exact K (by kernel_rfl)) only [E,EE,↓reduceIte,simprocAttr,rg B11 [2,2,1,2,2,1,2,2] 5 false rfl,hr_11_5,R11_aiirrz_l2.st]
noncomputable def f11_aiirrz_l2_j1 (k:Nat) (x3:Int) (x40:Bool) (h0_ h0__1:Int) (h0__2:List T65) (h0__3:List T39) : Option R11_aiirrz_l2 :=
 ifE ((0:Int) ≤ x3) (
  Option.bind (h0__2[(Int.toNat x3)]?) fun v2 =>
   cond ((decide (v2.Key_Source < 1)))
    (some (R11_aiirrz_l2.o0 false))
    (
     cond ((decide (v2.Key_Source > 6)))
      (some (R11_aiirrz_l2.o0 false))
      (
       cond ((v2.Key_Seq == 0))
        (some (R11_aiirrz_l2.o0 false))
        (
         cond ((decide (v2.Key_Offset < 0)))
          (some (R11_aiirrz_l2.o0 false))
          (
           cond ((decide (v2.Key_Offset > 400)))
            (some (R11_aiirrz_l2.o0 false))
            (
             cond ((decide (v2.N < 1)))
              (some (R11_aiirrz_l2.o0 false))
              (
               cond ((decide (v2.N > (IntKind.i64.wrap ((400:Int) - v2.Key_Offset)))))
                (some (R11_aiirrz_l2.o0 false))
                (
                 ifE ((Int.toNat x3) ≤ (List.length h0__2)) (
                  Option.bind (f27_rai4z k (List.take (Int.toNat x3) h0__2) v2.Key_Source v2.Key_Seq v2.Key_Offset v2.N) fun o12 =>
                   match o12 with
                   | .o0 v15 =>
                    cond (v15)
                     (some (R11_aiirrz_l2.o0 false))
                     (f11_aiirrz_l2_j2 k x3 false h0_ h0__1 h0__2 h0__3))))))))))
theorem f11_aiirrz_l2_j1_ok (k:Nat) (x3:Int) (x40:Bool) (h0_ h0__1:Int) (h0__2:List T65) (h0__3:List T39) (r:R11_aiirrz_l2) (hF:f11_aiirrz_l2_j1 k x3 x40 h0_ h0__1 h0__2 h0__3 = some r) : EX 11 k (nav B11 [2,1,2,2,1,2,2]) (⟨160,[(1,.ptr 30000 0),(3,.p (.int .i64 x3)),(40,.p (.bool x40))],[(30000,.box 26 [.p (.int .i64 h0_),.p (.int .u32 h0__1),.sl 4 (rowsOf encT65 h0__2),.sl 11 (rowsOf encT39 h0__3)])]⟩ : St) = some r.st := by
 unfold f11_aiirrz_l2_j1 at hF
 obtain ⟨h1,hF⟩ := ifE_some.1 hF
 obtain ⟨v2,h3,hF⟩ := bs hF
 simp (maxSteps:=999999) (disch:=first|exact D (by decide)|exact K (by kernel_rfl)) only [E,EE,↓reduceIte,simprocAttr,xk B11 [2,1,2,2,1,2,2] .sq rfl,xk B11 [1,2,1,2,2,1,2,2] (.bk 1) rfl,xk B11 [2,1,2,1,2,2,1,2,2] .sq rfl,rg B11 [1,2,1,2,1,2,2,1,2,2] 6 false rfl,hr_11_6,fieldAddrV,t_26,t_23,indexAddrV,t_65,encT65_eq,xk B11 [2,2,1,2,1,2,2,1,2,2] .sq rfl,rg B11 [1,2,2,1,2,1,2,2,1,2,2] 7 true rfl,hr_11_7,t_63,t_3,h1,h3]
 rcases cond_some hF with ⟨h4,hF⟩ | ⟨h4,hF⟩
 ·cases hF
  simp (maxSteps:=999999) (disch:=first|exact D (by decide)|exact K (by kernel_rfl)) only [E,EE,↓reduceIte,simprocAttr,xk B11 [2,2,2,1,2,1,2,2,1,2,2] (.cd 97) rfl,xk B11 [2,2,2,2,1,2,1,2,2,1,2,2] .sq rfl,rg B11 [1,2,2,2,2,1,2,1,2,2,1,2,2] 8 false rfl,hr_11_8,xk B11 [2,2,2,2,2,1,2,1,2,2,1,2,2] .rt rfl,R11_aiirrz_l2.st,h1,h3,h4]
 ·simp (maxSteps:=999999) (disch:=first|exact D (by decide)|exact K (by kernel_rfl)) only [E,EE,↓reduceIte,simprocAttr,fieldAddrV,t_65,t_63,t_3,h1,h3,h4]
  rcases cond_some hF with ⟨h5,hF⟩ | ⟨h5,hF⟩
  ·cases hF
   simp (maxSteps:=999999) (disch:=first|exact D (by decide)|exact K (by kernel_rfl)) only [E,EE,↓reduceIte,simprocAttr,xk B11 [2,2,2,1,2,1,2,2,1,2,2] (.cd 97) rfl,xk B11 [2,2,2,2,1,2,1,2,2,1,2,2] .sq rfl,rg B11 [1,2,2,2,2,1,2,1,2,2,1,2,2] 8 false rfl,hr_11_8,xk B11 [2,2,2,2,2,1,2,1,2,2,1,2,2] .rt rfl,R11_aiirrz_l2.st,h1,h3,h4,h5]
  ·simp (maxSteps:=999999) (disch:=first|exact D (by decide)|exact K (by kernel_rfl)) only [E,EE,↓reduceIte,simprocAttr,fieldAddrV,t_65,t_63,t_22,h1,h3,h4,h5]
   rcases cond_some hF with ⟨h6,hF⟩ | ⟨h6,hF⟩
   ·cases hF
    simp (maxSteps:=999999) (disch:=first|exact D (by decide)|exact K (by kernel_rfl)) only [E,EE,↓reduceIte,simprocAttr,xk B11 [2,2,2,1,2,1,2,2,1,2,2] (.cd 97) rfl,xk B11 [2,2,2,2,1,2,1,2,2,1,2,2] .sq rfl,rg B11 [1,2,2,2,2,1,2,1,2,2,1,2,2] 8 false rfl,hr_11_8,xk B11 [2,2,2,2,2,1,2,1,2,2,1,2,2] .rt rfl,R11_aiirrz_l2.st,h1,h3,h4,h5,h6]
   ·simp (maxSteps:=999999) (disch:=first|exact D (by decide)|exact K (by kernel_rfl)) only [E,EE,↓reduceIte,simprocAttr,fieldAddrV,t_65,t_63,t_3,h1,h3,h4,h5,h6]
    rcases cond_some hF with ⟨h7,hF⟩ | ⟨h7,hF⟩
    ·cases hF
     simp (maxSteps:=999999) (disch:=first|exact D (by decide)|exact K (by kernel_rfl)) only [E,EE,↓reduceIte,simprocAttr,xk B11 [2,2,2,1,2,1,2,2,1,2,2] (.cd 97) rfl,xk B11 [2,2,2,2,1,2,1,2,2,1,2,2] .sq rfl,rg B11 [1,2,2,2,2,1,2,1,2,2,1,2,2] 8 false rfl,hr_11_8,xk B11 [2,2,2,2,2,1,2,1,2,2,1,2,2] .rt rfl,R11_aiirrz_l2.st,h1,h3,h4,h5,h6,h7]
    ·simp (maxSteps:=999999) (disch:=first|exact D (by decide)|exact K (by kernel_rfl)) only [E,EE,↓reduceIte,simprocAttr,fieldAddrV,t_65,t_63,t_3,h1,h3,h4,h5,h6,h7]
     rcases cond_some hF with ⟨h8,hF⟩ | ⟨h8,hF⟩
     ·cases hF
      simp (maxSteps:=999999) (disch:=first|exact D (by decide)|exact K (by kernel_rfl)) only [E,EE,↓reduceIte,simprocAttr,xk B11 [2,2,2,1,2,1,2,2,1,2,2] (.cd 97) rfl,xk B11 [2,2,2,2,1,2,1,2,2,1,2,2] .sq rfl,rg B11 [1,2,2,2,2,1,2,1,2,2,1,2,2] 8 false rfl,hr_11_8,xk B11 [2,2,2,2,2,1,2,1,2,2,1,2,2] .rt rfl,R11_aiirrz_l2.st,h1,h3,h4,h5,h6,h7,h8]
     ·simp (maxSteps:=999999) (disch:=first|exact D (by decide)|exact K (by kernel_rfl)) only [E,EE,↓reduceIte,simprocAttr,fieldAddrV,t_65,t_3,h1,h3,h4,h5,h6,h7,h8]
      rcases cond_some hF with ⟨h9,hF⟩ | ⟨h9,hF⟩
      ·cases hF
       simp (maxSteps:=999999) (disch:=first|exact D (by decide)|exact K (by kernel_rfl)) only [E,EE,↓reduceIte,simprocAttr,xk B11 [2,2,2,1,2,1,2,2,1,2,2] (.cd 97) rfl,xk B11 [2,2,2,2,1,2,1,2,2,1,2,2] .sq rfl,rg B11 [1,2,2,2,2,1,2,1,2,2,1,2,2] 8 false rfl,hr_11_8,xk B11 [2,2,2,2,2,1,2,1,2,2,1,2,2] .rt rfl,R11_aiirrz_l2.st,h1,h3,h4,h5,h6,h7,h8,h9]
      ·simp (maxSteps:=999999) (disch:=first|exact D (by decide)|exact K (by kernel_rfl)) only [E,EE,↓reduceIte,simprocAttr,fieldAddrV,t_65,t_3,t_63,h1,h3,h4,h5,h6,h7,h8,h9]
       rcases cond_some hF with ⟨h10,hF⟩ | ⟨h10,hF⟩
       ·cases hF
        simp (maxSteps:=999999) (disch:=first|exact D (by decide)|exact K (by kernel_rfl)) only [E,EE,↓reduceIte,simprocAttr,xk B11 [2,2,2,1,2,1,2,2,1,2,2] (.cd 97) rfl,xk B11 [2,2,2,2,1,2,1,2,2,1,2,2] .sq rfl,rg B11 [1,2,2,2,2,1,2,1,2,2,1,2,2] 8 false rfl,hr_11_8,xk B11 [2,2,2,2,2,1,2,1,2,2,1,2,2] .rt rfl,R11_aiirrz_l2.st,h1,h3,h4,h5,h6,h7,h8,h9,h10]
       ·obtain ⟨h11,hF⟩ := ifE_some.1 hF
        obtain ⟨o12,h13,hF⟩ := bs hF
        have hc14 := f27_rai4z_ok k (List.take (Int.toNat x3) h0__2) v2.Key_Source v2.Key_Seq v2.Key_Offset v2.N _ h13
        cases o12 with
        | o0 v15 =>
         (try dsimp only at hF)
         (try simp only [NM,EE,R27_rai4z.st] at hc14)
         simp (maxSteps:=999999) (disch:=first|exact D (by decide)|exact K (by kernel_rfl)) only [E,EE,↓reduceIte,simprocAttr,fieldAddrV,t_26,t_23,sliceV,bound,t_65,callStep,CL,gv,List.contains,xk B11 [2,2,2,1,2,1,2,2,1,2,2] (.cd 97) rfl,h1,h3,h4,h5,h6,h7,h8,h9,h10,h11,hc14]
         rcases cond_some hF with ⟨h16,hF⟩ | ⟨h16,hF⟩
         ·cases hF
          simp (maxSteps:=999999) (disch:=first|exact D (by decide)|exact K (by kernel_rfl)) only [E,EE,↓reduceIte,simprocAttr,xk B11 [2,2,2,2,1,2,1,2,2,1,2,2] .sq rfl,rg B11 [1,2,2,2,2,1,2,1,2,2,1,2,2] 8 false rfl,hr_11_8,xk B11 [2,2,2,2,2,1,2,1,2,2,1,2,2] .rt rfl,R11_aiirrz_l2.st,h1,h3,h4,h5,h6,h7,h8,h9,h10,h11,hc14,h16]
         ·have hJ := f11_aiirrz_l2_j2_ok k x3 false h0_ h0__1 h0__2 h0__3 _ hF
          simp (maxSteps:=999999) (disch:=first|exact D (by decide)|exact K (by kernel_rfl)) only [E,EE,↓reduceIte,simprocAttr,xk B11 [3,2,2,2,1,2,1,2,2,1,2,2] .sk rfl,h1,h3,h4,h5,h6,h7,h8,h9,h10,h11,hc14,h16]
          try simp only [NM,EE] at hJ
          exact hJ
noncomputable def f11_aiirrz_l2_b (k:Nat) (x3 h0_ h0__1:Int) (h0__2:List T65) (h0__3:List T39) : Option R11_aiirrz_l2 :=
 cond ((decide (x3 < ((List.length h0__2) : Int))))
  (f11_aiirrz_l2_j1 k x3 true h0_ h0__1 h0__2 h0__3)
  (some (R11_aiirrz_l2.o2 x3 false h0_ h0__1 h0__2 h0__3))
theorem f11_aiirrz_l2_b_ok (k:Nat) (x3 h0_ h0__1:Int) (h0__2:List T65) (h0__3:List T39) (r:R11_aiirrz_l2) (hF:f11_aiirrz_l2_b k x3 h0_ h0__1 h0__2 h0__3 = some r) : EX 11 k (nav B11 [1,2,2,1,2,2]) (⟨160,[(1,.ptr 30000 0),(3,.p (.int .i64 x3))],[(30000,.box 26 [.p (.int .i64 h0_),.p (.int .u32 h0__1),.sl 4 (rowsOf encT65 h0__2),.sl 11 (rowsOf encT39 h0__3)])]⟩ : St) = some r.st := by
 unfold f11_aiirrz_l2_b at hF
 simp (maxSteps:=999999) (disch:=first|exact D (by decide)|exact K (by kernel_rfl)) only [E,EE,↓reduceIte,simprocAttr,xk B11 [1,2,2,1,2,2] .sq rfl,xk B11 [1,1,2,2,1,2,2] .sq rfl,rg B11 [1,1,1,2,2,1,2,2] 4 false rfl,hr_11_4,fieldAddrV,t_26,t_23,xk B11 [2,1,1,2,2,1,2,2] (.cd 40) rfl]
 rcases cond_some hF with ⟨h1,hF⟩ | ⟨h1,hF⟩
 ·have hJ := f11_aiirrz_l2_j1_ok k x3 true h0_ h0__1 h0__2 h0__3 _ hF
  simp (maxSteps:=999999) (disch:=first|exact D (by decide)|exact K (by kernel_rfl)) only [E,EE,↓reduceIte,simprocAttr,xk B11 [2,2,1,1,2,2,1,2,2] .sk rfl,h1]
  try simp only [NM,EE] at hJ
  exact hJ
 ·cases hF
  simp (maxSteps:=999999) (disch:=first|exact D (by decide)|exact K (by kernel_rfl)) only [E,EE,↓reduceIte,simprocAttr,xk B11 [3,2,1,1,2,2,1,2,2] (.ex 0) rfl,R11_aiirrz_l2.st,h1]
noncomputable def f11_aiirrz_l2 (k:Nat) : Nat → Int → Int → Int → (List T65) → (List T39) → Option R11_aiirrz_l2
 | 0,_,_,_,_,_ => none
 | n + 1,x3,h0_,h0__1,h0__2,h0__3 => Option.bind (f11_aiirrz_l2_b k x3 h0_ h0__1 h0__2 h0__3) fun o =>
  match o with
  | .o0 y => some (.o0 y)
  | .o1 y y_1 y_2 y_3 y_4 => f11_aiirrz_l2 k n y y_1 y_2 y_3 y_4
  | .o2 y y_1 y_2 y_3 y_4 y_5 => some (.o2 y y_1 y_2 y_3 y_4 y_5)
theorem f11_aiirrz_l2_ok (k n:Nat) : ∀ (x3 h0_ h0__1:Int) (h0__2:List T65) (h0__3:List T39) (r:R11_aiirrz_l2) (hF:f11_aiirrz_l2 k n x3 h0_ h0__1 h0__2 h0__3 = some r) (σ:St) (hσ:headR (hints.head 11 4) (hints.canon 11 4) σ = some (⟨160,[(1,.ptr 30000 0),(3,.p (.int .i64 x3))],[(30000,.box 26 [.p (.int .i64 h0_),.p (.int .u32 h0__1),.sl 4 (rowsOf encT65 h0__2),.sl 11 (rowsOf encT39 h0__3)])]⟩ : St)),LP 11 k (nav B11 [1,2,2,1,2,2]) n σ = some r.st := by
 induction n with
 | zero => intro x3 h0_ h0__1 h0__2 h0__3 r hF; cases hF
 | succ n ih =>
  intro x3 h0_ h0__1 h0__2 h0__3 r hF σ hσ
  rw [f11_aiirrz_l2] at hF
  obtain ⟨o,h,hF⟩ := Option.bind_eq_some_iff.1 hF
  have hB := f11_aiirrz_l2_b_ok k x3 h0_ h0__1 h0__2 h0__3 o h
  unfold LP at ih ⊢
  unfold EX at hB
  rw [loopK_succ,show firstReg (nav B11 [1,2,2,1,2,2]) = 4 from rfl,hσ,headK_some,hB]
  cases o with
  | o0 y => cases hF; rfl
  | o1 y y_1 y_2 y_3 y_4 =>
   refine ih y y_1 y_2 y_3 y_4 r hF _ ?_
   simp (maxSteps:=999999) (disch:=first|exact D (by decide)|exact K (by kernel_rfl)) only [E,EE,↓reduceIte,simprocAttr,hh_11_4,hc_11_4]
  | o2 y y_1 y_2 y_3 y_4 y_5 => cases hF; rfl
inductive R11_aiirrz_l4 where
 | o0 (y:Bool)
 | o1 (y y_1 y_2:Int) (y_3:List T65) (y_4:List T39)
 | o2 (y:Int) (y_1:Bool) (y_2 y_3:Int) (y_4:List T65) (y_5:List T39)
noncomputable def R11_aiirrz_l4.st : R11_aiirrz_l4 → Out × St
 | .o0 y => (.ret,(⟨160,[(2,.p (.bool y))],[]⟩ : St))
 | .o1 y y_1 y_2 y_3 y_4 => (.norm,(⟨160,[(1,.ptr 30000 0),(5,.p (.int .i64 y))],[(30000,.box 26 [.p (.int .i64 y_1),.p (.int .u32 y_2),.sl 4 (rowsOf encT65 y_3),.sl 11 (rowsOf encT39 y_4)])]⟩ : St))
 | .o2 y y_1 y_2 y_3 y_4 y_5 => (.exit 2,(⟨160,[(1,.ptr 30000 0),(5,.p (.int .i64 y)),(102,.p (.bool y_1))],[(30000,.box 26 [.p (.int .i64 y_2),.p (.int .u32 y_3),.sl 4 (rowsOf encT65 y_4),.sl 11 (rowsOf encT39 y_5)])]⟩ : St))
noncomputable def f11_aiirrz_l4_j2 (k:Nat) (x5:Int) (x127:Bool) (h0_ h0__1:Int) (h0__2:List T65) (h0__3:List T39) : Option R11_aiirrz_l4 :=
 some (R11_aiirrz_l4.o1 (IntKind.i64.wrap (x5 + (1:Int))) h0_ h0__1 h0__2 h0__3)
theorem f11_aiirrz_l4_j2_ok (k:Nat) (x5:Int) (x127:Bool) (h0_ h0__1:Int) (h0__2:List T65) (h0__3:List T39) (r:R11_aiirrz_l4) (hF:f11_aiirrz_l4_j2 k x5 x127 h0_ h0__1 h0__2 h0__3 = some r) : EX 11 k (nav B11 [2,2,1,2,2,1,2,2,2]) (⟨160,[(1,.ptr 30000 0),(5,.p (.int .i64 x5)),(127,.p (.bool x127))],[(30000,.box 26 [.p (.int .i64 h0_),.p (.int .u32 h0__1),.sl 4 (rowsOf encT65 h0__2),.sl 11 (rowsOf encT39 h0__3)])]⟩ : St) = some r.st := by
 unfold f11_aiirrz_l4_j2 at hF
 cases hF
 simp (maxSteps:=999999) (disch:=first|exact D (by decide)|exact K (by kernel_rfl)) only [E,EE,↓reduceIte,simprocAttr,rg B11 [2,2,1,2,2,1,2,2,2] 11 false rfl,hr_11_11,R11_aiirrz_l4.st]
noncomputable def f11_aiirrz_l4_j1 (k:Nat) (x5:Int) (x102:Bool) (h0_ h0__1:Int) (h0__2:List T65) (h0__3:List T39) : Option R11_aiirrz_l4 :=
 ifE ((0:Int) ≤ x5) (
  Option.bind (h0__3[(Int.toNat x5)]?) fun v2 =>
   Option.bind (f13_ai10rz k v2.Source v2.Dest v2.Seq v2.Created v2.Lifetime v2.HopLimit v2.Hops v2.Priority v2.Offset v2.Total v2.Payload) fun o4 =>
    match o4 with
    | .o0 v7 =>
     cond ((!v7))
      (some (R11_aiirrz_l4.o0 false))
      (
       cond ((v2.Dest != h0_))
        (some (R11_aiirrz_l4.o0 false))
        (
         cond ((((List.length v2.Payload) : Int) == v2.Total))
          (some (R11_aiirrz_l4.o0 false))
          (f11_aiirrz_l4_j2 k x5 false h0_ h0__1 h0__2 h0__3))))
theorem f11_aiirrz_l4_j1_ok (k:Nat) (x5:Int) (x102:Bool) (h0_ h0__1:Int) (h0__2:List T65) (h0__3:List T39) (r:R11_aiirrz_l4) (hF:f11_aiirrz_l4_j1 k x5 x102 h0_ h0__1 h0__2 h0__3 = some r) : EX 11 k (nav B11 [2,1,2,2,1,2,2,2]) (⟨160,[(1,.ptr 30000 0),(5,.p (.int .i64 x5)),(102,.p (.bool x102))],[(30000,.box 26 [.p (.int .i64 h0_),.p (.int .u32 h0__1),.sl 4 (rowsOf encT65 h0__2),.sl 11 (rowsOf encT39 h0__3)])]⟩ : St) = some r.st := by
 unfold f11_aiirrz_l4_j1 at hF
 obtain ⟨h1,hF⟩ := ifE_some.1 hF
 obtain ⟨v2,h3,hF⟩ := bs hF
 obtain ⟨o4,h5,hF⟩ := bs hF
 have hc6 := f13_ai10rz_ok k v2.Source v2.Dest v2.Seq v2.Created v2.Lifetime v2.HopLimit v2.Hops v2.Priority v2.Offset v2.Total v2.Payload _ h5
 cases o4 with
 | o0 v7 =>
  (try dsimp only at hF)
  (try simp only [NM,EE,R13_ai10rz.st] at hc6)
  simp (maxSteps:=999999) (disch:=first|exact D (by decide)|exact K (by kernel_rfl)) only [E,EE,↓reduceIte,simprocAttr,xk B11 [2,1,2,2,1,2,2,2] .sq rfl,xk B11 [1,2,1,2,2,1,2,2,2] (.bk 3) rfl,xk B11 [2,1,2,1,2,2,1,2,2,2] .sq rfl,rg B11 [1,2,1,2,1,2,2,1,2,2,2] 12 false rfl,hr_11_12,fieldAddrV,t_26,t_24,indexAddrV,t_39,encT39_eq,xk B11 [2,2,1,2,1,2,2,1,2,2,2] .sq rfl,rg B11 [1,2,2,1,2,1,2,2,1,2,2,2] 13 false rfl,hr_11_13,callStep,CL,gv,List.contains,h1,h3,hc6]
  rcases cond_some hF with ⟨h8,hF⟩ | ⟨h8,hF⟩
  ·cases hF
   simp (maxSteps:=999999) (disch:=first|exact D (by decide)|exact K (by kernel_rfl)) only [E,EE,↓reduceIte,simprocAttr,xk B11 [2,2,2,1,2,1,2,2,1,2,2,2] (.cd 127) rfl,xk B11 [2,2,2,2,1,2,1,2,2,1,2,2,2] .sq rfl,rg B11 [1,2,2,2,2,1,2,1,2,2,1,2,2,2] 14 false rfl,hr_11_14,xk B11 [2,2,2,2,2,1,2,1,2,2,1,2,2,2] .rt rfl,R11_aiirrz_l4.st,h1,h3,hc6,h8]
  ·simp (maxSteps:=999999) (disch:=first|exact D (by decide)|exact K (by kernel_rfl)) only [E,EE,↓reduceIte,simprocAttr,fieldAddrV,t_39,t_3,t_26,h1,h3,hc6,h8]
   rcases cond_some hF with ⟨h9,hF⟩ | ⟨h9,hF⟩
   ·cases hF
    simp (maxSteps:=999999) (disch:=first|exact D (by decide)|exact K (by kernel_rfl)) only [E,EE,↓reduceIte,simprocAttr,xk B11 [2,2,2,1,2,1,2,2,1,2,2,2] (.cd 127) rfl,xk B11 [2,2,2,2,1,2,1,2,2,1,2,2,2] .sq rfl,rg B11 [1,2,2,2,2,1,2,1,2,2,1,2,2,2] 14 false rfl,hr_11_14,xk B11 [2,2,2,2,2,1,2,1,2,2,1,2,2,2] .rt rfl,R11_aiirrz_l4.st,h1,h3,hc6,h8,h9]
   ·simp (maxSteps:=999999) (disch:=first|exact D (by decide)|exact K (by kernel_rfl)) only [E,EE,↓reduceIte,simprocAttr,fieldAddrV,t_39,t_29,t_3,xk B11 [2,2,2,1,2,1,2,2,1,2,2,2] (.cd 127) rfl,h1,h3,hc6,h8,h9]
    rcases cond_some hF with ⟨h10,hF⟩ | ⟨h10,hF⟩
    ·cases hF
     simp (maxSteps:=999999) (disch:=first|exact D (by decide)|exact K (by kernel_rfl)) only [E,EE,↓reduceIte,simprocAttr,xk B11 [2,2,2,2,1,2,1,2,2,1,2,2,2] .sq rfl,rg B11 [1,2,2,2,2,1,2,1,2,2,1,2,2,2] 14 false rfl,hr_11_14,xk B11 [2,2,2,2,2,1,2,1,2,2,1,2,2,2] .rt rfl,R11_aiirrz_l4.st,h1,h3,hc6,h8,h9,h10]
    ·have hJ := f11_aiirrz_l4_j2_ok k x5 false h0_ h0__1 h0__2 h0__3 _ hF
     simp (maxSteps:=999999) (disch:=first|exact D (by decide)|exact K (by kernel_rfl)) only [E,EE,↓reduceIte,simprocAttr,xk B11 [3,2,2,2,1,2,1,2,2,1,2,2,2] .sk rfl,h1,h3,hc6,h8,h9,h10]
     try simp only [NM,EE] at hJ
     exact hJ
noncomputable def f11_aiirrz_l4_b (k:Nat) (x5 h0_ h0__1:Int) (h0__2:List T65) (h0__3:List T39) : Option R11_aiirrz_l4 :=
 cond ((decide (x5 < ((List.length h0__3) : Int))))
  (f11_aiirrz_l4_j1 k x5 true h0_ h0__1 h0__2 h0__3)
  (some (R11_aiirrz_l4.o2 x5 false h0_ h0__1 h0__2 h0__3))
theorem f11_aiirrz_l4_b_ok (k:Nat) (x5 h0_ h0__1:Int) (h0__2:List T65) (h0__3:List T39) (r:R11_aiirrz_l4) (hF:f11_aiirrz_l4_b k x5 h0_ h0__1 h0__2 h0__3 = some r) : EX 11 k (nav B11 [1,2,2,1,2,2,2]) (⟨160,[(1,.ptr 30000 0),(5,.p (.int .i64 x5))],[(30000,.box 26 [.p (.int .i64 h0_),.p (.int .u32 h0__1),.sl 4 (rowsOf encT65 h0__2),.sl 11 (rowsOf encT39 h0__3)])]⟩ : St) = some r.st := by
 unfold f11_aiirrz_l4_b at hF
 simp (maxSteps:=999999) (disch:=first|exact D (by decide)|exact K (by kernel_rfl)) only [E,EE,↓reduceIte,simprocAttr,xk B11 [1,2,2,1,2,2,2] .sq rfl,xk B11 [1,1,2,2,1,2,2,2] .sq rfl,rg B11 [1,1,1,2,2,1,2,2,2] 10 false rfl,hr_11_10,fieldAddrV,t_26,t_24,xk B11 [2,1,1,2,2,1,2,2,2] (.cd 102) rfl]
 rcases cond_some hF with ⟨h1,hF⟩ | ⟨h1,hF⟩
 ·have hJ := f11_aiirrz_l4_j1_ok k x5 true h0_ h0__1 h0__2 h0__3 _ hF
  simp (maxSteps:=999999) (disch:=first|exact D (by decide)|exact K (by kernel_rfl)) only [E,EE,↓reduceIte,simprocAttr,xk B11 [2,2,1,1,2,2,1,2,2,2] .sk rfl,h1]
  try simp only [NM,EE] at hJ
  exact hJ
 ·cases hF
  simp (maxSteps:=999999) (disch:=first|exact D (by decide)|exact K (by kernel_rfl)) only [E,EE,↓reduceIte,simprocAttr,xk B11 [3,2,1,1,2,2,1,2,2,2] (.ex 2) rfl,R11_aiirrz_l4.st,h1]
noncomputable def f11_aiirrz_l4 (k:Nat) : Nat → Int → Int → Int → (List T65) → (List T39) → Option R11_aiirrz_l4
 | 0,_,_,_,_,_ => none
 | n + 1,x5,h0_,h0__1,h0__2,h0__3 => Option.bind (f11_aiirrz_l4_b k x5 h0_ h0__1 h0__2 h0__3) fun o =>
  match o with
  | .o0 y => some (.o0 y)
  | .o1 y y_1 y_2 y_3 y_4 => f11_aiirrz_l4 k n y y_1 y_2 y_3 y_4
  | .o2 y y_1 y_2 y_3 y_4 y_5 => some (.o2 y y_1 y_2 y_3 y_4 y_5)
theorem f11_aiirrz_l4_ok (k n:Nat) : ∀ (x5 h0_ h0__1:Int) (h0__2:List T65) (h0__3:List T39) (r:R11_aiirrz_l4) (hF:f11_aiirrz_l4 k n x5 h0_ h0__1 h0__2 h0__3 = some r) (σ:St) (hσ:headR (hints.head 11 10) (hints.canon 11 10) σ = some (⟨160,[(1,.ptr 30000 0),(5,.p (.int .i64 x5))],[(30000,.box 26 [.p (.int .i64 h0_),.p (.int .u32 h0__1),.sl 4 (rowsOf encT65 h0__2),.sl 11 (rowsOf encT39 h0__3)])]⟩ : St)),LP 11 k (nav B11 [1,2,2,1,2,2,2]) n σ = some r.st := by
 induction n with
 | zero => intro x5 h0_ h0__1 h0__2 h0__3 r hF; cases hF
 | succ n ih =>
  intro x5 h0_ h0__1 h0__2 h0__3 r hF σ hσ
  rw [f11_aiirrz_l4] at hF
  obtain ⟨o,h,hF⟩ := Option.bind_eq_some_iff.1 hF
  have hB := f11_aiirrz_l4_b_ok k x5 h0_ h0__1 h0__2 h0__3 o h
  unfold LP at ih ⊢
  unfold EX at hB
  rw [loopK_succ,show firstReg (nav B11 [1,2,2,1,2,2,2]) = 10 from rfl,hσ,headK_some,hB]
  cases o with
  | o0 y => cases hF; rfl
  | o1 y y_1 y_2 y_3 y_4 =>
   refine ih y y_1 y_2 y_3 y_4 r hF _ ?_
   simp (maxSteps:=999999) (disch:=first|exact D (by decide)|exact K (by kernel_rfl)) only [E,EE,↓reduceIte,simprocAttr,hh_11_10,hc_11_10]
  | o2 y y_1 y_2 y_3 y_4 y_5 => cases hF; rfl
inductive R11_aiirrz_l6 where
 | o0 (y:Bool)
 | o1 (y y_1 y_2:Int) (y_3:List T65) (y_4:List T39)
 | o2 (y:Int) (y_1:Bool) (y_2 y_3:Int) (y_4:List T65) (y_5:List T39)
noncomputable def R11_aiirrz_l6.st : R11_aiirrz_l6 → Out × St
 | .o0 y => (.ret,(⟨160,[(2,.p (.bool y))],[]⟩ : St))
 | .o1 y y_1 y_2 y_3 y_4 => (.norm,(⟨160,[(1,.ptr 30000 0),(7,.p (.int .i64 y))],[(30000,.box 26 [.p (.int .i64 y_1),.p (.int .u32 y_2),.sl 4 (rowsOf encT65 y_3),.sl 11 (rowsOf encT39 y_4)])]⟩ : St))
 | .o2 y y_1 y_2 y_3 y_4 y_5 => (.exit 4,(⟨160,[(1,.ptr 30000 0),(7,.p (.int .i64 y)),(132,.p (.bool y_1))],[(30000,.box 26 [.p (.int .i64 y_2),.p (.int .u32 y_3),.sl 4 (rowsOf encT65 y_4),.sl 11 (rowsOf encT39 y_5)])]⟩ : St))
noncomputable def f11_aiirrz_l6_j2 (k:Nat) (x7:Int) (x159:Bool) (h0_ h0__1:Int) (h0__2:List T65) (h0__3:List T39) : Option R11_aiirrz_l6 :=
 some (R11_aiirrz_l6.o1 (IntKind.i64.wrap (x7 + (1:Int))) h0_ h0__1 h0__2 h0__3)
theorem f11_aiirrz_l6_j2_ok (k:Nat) (x7:Int) (x159:Bool) (h0_ h0__1:Int) (h0__2:List T65) (h0__3:List T39) (r:R11_aiirrz_l6) (hF:f11_aiirrz_l6_j2 k x7 x159 h0_ h0__1 h0__2 h0__3 = some r) : EX 11 k (nav B11 [2,2,1,2,2,1,2,2,2,2]) (⟨160,[(1,.ptr 30000 0),(7,.p (.int .i64 x7)),(159,.p (.bool x159))],[(30000,.box 26 [.p (.int .i64 h0_),.p (.int .u32 h0__1),.sl 4 (rowsOf encT65 h0__2),.sl 11 (rowsOf encT39 h0__3)])]⟩ : St) = some r.st := by
 unfold f11_aiirrz_l6_j2 at hF
 cases hF
 simp (maxSteps:=999999) (disch:=first|exact D (by decide)|exact K (by kernel_rfl)) only [E,EE,↓reduceIte,simprocAttr,rg B11 [2,2,1,2,2,1,2,2,2,2] 17 false rfl,hr_11_17,R11_aiirrz_l6.st]
noncomputable def f11_aiirrz_l6_j1 (k:Nat) (x7:Int) (x132:Bool) (h0_ h0__1:Int) (h0__2:List T65) (h0__3:List T39) : Option R11_aiirrz_l6 :=
 ifE ((0:Int) ≤ x7) (
  Option.bind (h0__3[(Int.toNat x7)]?) fun v2 =>
   Option.bind (f29_rai10rz k h0__3 v2.Source v2.Dest v2.Seq v2.Created v2.Lifetime v2.HopLimit v2.Hops v2.Priority v2.Offset v2.Total v2.Payload) fun o4 =>
    match o4 with
    | .o0 v7 =>
     Option.bind (f28_r k v7) fun o8 =>
      match o8 with
      | .o0 v11 v12 v13 =>
       cond ((!v13))
        (some (R11_aiirrz_l6.o0 false))
        (
         cond ((v12 == v2.Total))
          (some (R11_aiirrz_l6.o0 false))
          (f11_aiirrz_l6_j2 k x7 false h0_ h0__1 h0__2 h0__3))
      | .o1 v16 v17 v18 =>
       cond ((!v17))
        (some (R11_aiirrz_l6.o0 false))
        (
         cond ((v16 == v2.Total))
          (some (R11_aiirrz_l6.o0 false))
          (f11_aiirrz_l6_j2 k x7 false h0_ h0__1 h0__2 h0__3)))
theorem f11_aiirrz_l6_j1_ok (k:Nat) (x7:Int) (x132:Bool) (h0_ h0__1:Int) (h0__2:List T65) (h0__3:List T39) (r:R11_aiirrz_l6) (hF:f11_aiirrz_l6_j1 k x7 x132 h0_ h0__1 h0__2 h0__3 = some r) : EX 11 k (nav B11 [2,1,2,2,1,2,2,2,2]) (⟨160,[(1,.ptr 30000 0),(7,.p (.int .i64 x7)),(132,.p (.bool x132))],[(30000,.box 26 [.p (.int .i64 h0_),.p (.int .u32 h0__1),.sl 4 (rowsOf encT65 h0__2),.sl 11 (rowsOf encT39 h0__3)])]⟩ : St) = some r.st := by
 unfold f11_aiirrz_l6_j1 at hF
 obtain ⟨h1,hF⟩ := ifE_some.1 hF
 obtain ⟨v2,h3,hF⟩ := bs hF
 obtain ⟨o4,h5,hF⟩ := bs hF
 have hc6 := f29_rai10rz_ok k h0__3 v2.Source v2.Dest v2.Seq v2.Created v2.Lifetime v2.HopLimit v2.Hops v2.Priority v2.Offset v2.Total v2.Payload _ h5
 cases o4 with
 | o0 v7 =>
  (try dsimp only at hF)
  (try simp only [NM,EE,R29_rai10rz.st] at hc6)
  simp (maxSteps:=999999) (disch:=first|exact D (by decide)|exact K (by kernel_rfl)) only [E,EE,↓reduceIte,simprocAttr,xk B11 [2,1,2,2,1,2,2,2,2] .sq rfl,xk B11 [1,2,1,2,2,1,2,2,2,2] (.bk 5) rfl,xk B11 [2,1,2,1,2,2,1,2,2,2,2] .sq rfl,rg B11 [1,2,1,2,1,2,2,1,2,2,2,2] 18 true rfl,hr_11_18,fieldAddrV,t_26,t_24,indexAddrV,t_39,encT39_eq,callStep,CL,gv,List.contains,h1,h3,hc6]
  obtain ⟨o8,h9,hF⟩ := bs hF
  have hc10 := f28_r_ok k v7 _ h9
  cases o8 with
  | o0 v11 v12 v13 =>
   (try dsimp only at hF)
   (try simp only [NM,EE,R28_r.st] at hc10)
   simp (maxSteps:=999999) (disch:=first|exact D (by decide)|exact K (by kernel_rfl)) only [E,EE,↓reduceIte,simprocAttr,xk B11 [2,2,1,2,1,2,2,1,2,2,2,2] .sq rfl,rg B11 [1,2,2,1,2,1,2,2,1,2,2,2,2] 19 false rfl,hr_11_19,h1,h3,hc6,hc10]
   rcases cond_some hF with ⟨h14,hF⟩ | ⟨h14,hF⟩
   ·cases hF
    simp (maxSteps:=999999) (disch:=first|exact D (by decide)|exact K (by kernel_rfl)) only [E,EE,↓reduceIte,simprocAttr,xk B11 [2,2,2,1,2,1,2,2,1,2,2,2,2] (.cd 159) rfl,xk B11 [2,2,2,2,1,2,1,2,2,1,2,2,2,2] .sq rfl,rg B11 [1,2,2,2,2,1,2,1,2,2,1,2,2,2,2] 20 false rfl,hr_11_20,xk B11 [2,2,2,2,2,1,2,1,2,2,1,2,2,2,2] .rt rfl,R11_aiirrz_l6.st,h1,h3,hc6,hc10,h14]
   ·simp (maxSteps:=999999) (disch:=first|exact D (by decide)|exact K (by kernel_rfl)) only [E,EE,↓reduceIte,simprocAttr,fieldAddrV,t_26,t_24,indexAddrV,t_39,encT39_eq,t_3,xk B11 [2,2,2,1,2,1,2,2,1,2,2,2,2] (.cd 159) rfl,h1,h3,hc6,hc10,h14]
    rcases cond_some hF with ⟨h15,hF⟩ | ⟨h15,hF⟩
    ·cases hF
     simp (maxSteps:=999999) (disch:=first|exact D (by decide)|exact K (by kernel_rfl)) only [E,EE,↓reduceIte,simprocAttr,xk B11 [2,2,2,2,1,2,1,2,2,1,2,2,2,2] .sq rfl,rg B11 [1,2,2,2,2,1,2,1,2,2,1,2,2,2,2] 20 false rfl,hr_11_20,xk B11 [2,2,2,2,2,1,2,1,2,2,1,2,2,2,2] .rt rfl,R11_aiirrz_l6.st,h1,h3,hc6,hc10,h14,h15]
    ·have hJ := f11_aiirrz_l6_j2_ok k x7 false h0_ h0__1 h0__2 h0__3 _ hF
     simp (maxSteps:=999999) (disch:=first|exact D (by decide)|exact K (by kernel_rfl)) only [E,EE,↓reduceIte,simprocAttr,xk B11 [3,2,2,2,1,2,1,2,2,1,2,2,2,2] .sk rfl,h1,h3,hc6,hc10,h14,h15]
     try simp only [NM,EE] at hJ
     exact hJ
  | o1 v16 v17 v18 =>
   (try dsimp only at hF)
   (try simp only [NM,EE,R28_r.st] at hc10)
   simp (maxSteps:=999999) (disch:=first|exact D (by decide)|exact K (by kernel_rfl)) only [E,EE,↓reduceIte,simprocAttr,xk B11 [2,2,1,2,1,2,2,1,2,2,2,2] .sq rfl,rg B11 [1,2,2,1,2,1,2,2,1,2,2,2,2] 19 false rfl,hr_11_19,h1,h3,hc6,hc10]
   rcases cond_some hF with ⟨h19,hF⟩ | ⟨h19,hF⟩
   ·cases hF
    simp (maxSteps:=999999) (disch:=first|exact D (by decide)|exact K (by kernel_rfl)) only [E,EE,↓reduceIte,simprocAttr,xk B11 [2,2,2,1,2,1,2,2,1,2,2,2,2] (.cd 159) rfl,xk B11 [2,2,2,2,1,2,1,2,2,1,2,2,2,2] .sq rfl,rg B11 [1,2,2,2,2,1,2,1,2,2,1,2,2,2,2] 20 false rfl,hr_11_20,xk B11 [2,2,2,2,2,1,2,1,2,2,1,2,2,2,2] .rt rfl,R11_aiirrz_l6.st,h1,h3,hc6,hc10,h19]
   ·simp (maxSteps:=999999) (disch:=first|exact D (by decide)|exact K (by kernel_rfl)) only [E,EE,↓reduceIte,simprocAttr,fieldAddrV,t_26,t_24,indexAddrV,t_39,encT39_eq,t_3,xk B11 [2,2,2,1,2,1,2,2,1,2,2,2,2] (.cd 159) rfl,h1,h3,hc6,hc10,h19]
    rcases cond_some hF with ⟨h20,hF⟩ | ⟨h20,hF⟩
    ·cases hF
     simp (maxSteps:=999999) (disch:=first|exact D (by decide)|exact K (by kernel_rfl)) only [E,EE,↓reduceIte,simprocAttr,xk B11 [2,2,2,2,1,2,1,2,2,1,2,2,2,2] .sq rfl,rg B11 [1,2,2,2,2,1,2,1,2,2,1,2,2,2,2] 20 false rfl,hr_11_20,xk B11 [2,2,2,2,2,1,2,1,2,2,1,2,2,2,2] .rt rfl,R11_aiirrz_l6.st,h1,h3,hc6,hc10,h19,h20]
    ·have hJ := f11_aiirrz_l6_j2_ok k x7 false h0_ h0__1 h0__2 h0__3 _ hF
     simp (maxSteps:=999999) (disch:=first|exact D (by decide)|exact K (by kernel_rfl)) only [E,EE,↓reduceIte,simprocAttr,xk B11 [3,2,2,2,1,2,1,2,2,1,2,2,2,2] .sk rfl,h1,h3,hc6,hc10,h19,h20]
     try simp only [NM,EE] at hJ
     exact hJ
noncomputable def f11_aiirrz_l6_b (k:Nat) (x7 h0_ h0__1:Int) (h0__2:List T65) (h0__3:List T39) : Option R11_aiirrz_l6 :=
 cond ((decide (x7 < ((List.length h0__3) : Int))))
  (f11_aiirrz_l6_j1 k x7 true h0_ h0__1 h0__2 h0__3)
  (some (R11_aiirrz_l6.o2 x7 false h0_ h0__1 h0__2 h0__3))
theorem f11_aiirrz_l6_b_ok (k:Nat) (x7 h0_ h0__1:Int) (h0__2:List T65) (h0__3:List T39) (r:R11_aiirrz_l6) (hF:f11_aiirrz_l6_b k x7 h0_ h0__1 h0__2 h0__3 = some r) : EX 11 k (nav B11 [1,2,2,1,2,2,2,2]) (⟨160,[(1,.ptr 30000 0),(7,.p (.int .i64 x7))],[(30000,.box 26 [.p (.int .i64 h0_),.p (.int .u32 h0__1),.sl 4 (rowsOf encT65 h0__2),.sl 11 (rowsOf encT39 h0__3)])]⟩ : St) = some r.st := by
 unfold f11_aiirrz_l6_b at hF
 simp (maxSteps:=999999) (disch:=first|exact D (by decide)|exact K (by kernel_rfl)) only [E,EE,↓reduceIte,simprocAttr,xk B11 [1,2,2,1,2,2,2,2] .sq rfl,xk B11 [1,1,2,2,1,2,2,2,2] .sq rfl,rg B11 [1,1,1,2,2,1,2,2,2,2] 16 false rfl,hr_11_16,fieldAddrV,t_26,t_24,xk B11 [2,1,1,2,2,1,2,2,2,2] (.cd 132) rfl]
 rcases cond_some hF with ⟨h1,hF⟩ | ⟨h1,hF⟩
 ·have hJ := f11_aiirrz_l6_j1_ok k x7 true h0_ h0__1 h0__2 h0__3 _ hF
  simp (maxSteps:=999999) (disch:=first|exact D (by decide)|exact K (by kernel_rfl)) only [E,EE,↓reduceIte,simprocAttr,xk B11 [2,2,1,1,2,2,1,2,2,2,2] .sk rfl,h1]
  try simp only [NM,EE] at hJ
  exact hJ
 ·cases hF
  simp (maxSteps:=999999) (disch:=first|exact D (by decide)|exact K (by kernel_rfl)) only [E,EE,↓reduceIte,simprocAttr,xk B11 [3,2,1,1,2,2,1,2,2,2,2] (.ex 4) rfl,R11_aiirrz_l6.st,h1]
noncomputable def f11_aiirrz_l6 (k:Nat) : Nat → Int → Int → Int → (List T65) → (List T39) → Option R11_aiirrz_l6
 | 0,_,_,_,_,_ => none
 | n + 1,x7,h0_,h0__1,h0__2,h0__3 => Option.bind (f11_aiirrz_l6_b k x7 h0_ h0__1 h0__2 h0__3) fun o =>
  match o with
  | .o0 y => some (.o0 y)
  | .o1 y y_1 y_2 y_3 y_4 => f11_aiirrz_l6 k n y y_1 y_2 y_3 y_4
  | .o2 y y_1 y_2 y_3 y_4 y_5 => some (.o2 y y_1 y_2 y_3 y_4 y_5)
theorem f11_aiirrz_l6_ok (k n:Nat) : ∀ (x7 h0_ h0__1:Int) (h0__2:List T65) (h0__3:List T39) (r:R11_aiirrz_l6) (hF:f11_aiirrz_l6 k n x7 h0_ h0__1 h0__2 h0__3 = some r) (σ:St) (hσ:headR (hints.head 11 16) (hints.canon 11 16) σ = some (⟨160,[(1,.ptr 30000 0),(7,.p (.int .i64 x7))],[(30000,.box 26 [.p (.int .i64 h0_),.p (.int .u32 h0__1),.sl 4 (rowsOf encT65 h0__2),.sl 11 (rowsOf encT39 h0__3)])]⟩ : St)),LP 11 k (nav B11 [1,2,2,1,2,2,2,2]) n σ = some r.st := by
 induction n with
 | zero => intro x7 h0_ h0__1 h0__2 h0__3 r hF; cases hF
 | succ n ih =>
  intro x7 h0_ h0__1 h0__2 h0__3 r hF σ hσ
  rw [f11_aiirrz_l6] at hF
  obtain ⟨o,h,hF⟩ := Option.bind_eq_some_iff.1 hF
  have hB := f11_aiirrz_l6_b_ok k x7 h0_ h0__1 h0__2 h0__3 o h
  unfold LP at ih ⊢
  unfold EX at hB
  rw [loopK_succ,show firstReg (nav B11 [1,2,2,1,2,2,2,2]) = 16 from rfl,hσ,headK_some,hB]
  cases o with
  | o0 y => cases hF; rfl
  | o1 y y_1 y_2 y_3 y_4 =>
   refine ih y y_1 y_2 y_3 y_4 r hF _ ?_
   simp (maxSteps:=999999) (disch:=first|exact D (by decide)|exact K (by kernel_rfl)) only [E,EE,↓reduceIte,simprocAttr,hh_11_16,hc_11_16]
  | o2 y y_1 y_2 y_3 y_4 y_5 => cases hF; rfl
noncomputable def f11_aiirrz_j7 (k:Nat) (x7:Int) (x132:Bool) (h0_ h0__1:Int) (h0__2:List T65) (h0__3:List T39) : Option R11_aiirrz :=
 some (R11_aiirrz.o0 true)
theorem f11_aiirrz_j7_ok (k:Nat) (x7:Int) (x132:Bool) (h0_ h0__1:Int) (h0__2:List T65) (h0__3:List T39) (r:R11_aiirrz) (hF:f11_aiirrz_j7 k x7 x132 h0_ h0__1 h0__2 h0__3 = some r) : finK Try.prog Try.f11 0 (EX 11 k (nav B11 [2,2,2,2,2]) (⟨160,[(1,.ptr 30000 0),(7,.p (.int .i64 x7)),(132,.p (.bool x132))],[(30000,.box 26 [.p (.int .i64 h0_),.p (.int .u32 h0__1),.sl 4 (rowsOf encT65 h0__2),.sl 11 (rowsOf encT39 h0__3)])]⟩ : St)) = some r.st := by
 unfold f11_aiirrz_j7 at hF
 cases hF
 simp (maxSteps:=999999) (disch:=first|exact D (by decide)|exact K (by kernel_rfl)) only [E,EE,↓reduceIte,simprocAttr,xk B11 [2,2,2,2,2] .sq rfl,rg B11 [1,2,2,2,2,2] 21 false rfl,hr_11_21,xk B11 [2,2,2,2,2,2] .rt rfl,finK_norm,finK_ret,fin11,R11_aiirrz.st]
noncomputable def f11_aiirrz_j5 (k:Nat) (x5:Int) (x102:Bool) (h0_ h0__1:Int) (h0__2:List T65) (h0__3:List T39) : Option R11_aiirrz :=
 Option.bind (f11_aiirrz_l6 k k 0 h0_ h0__1 h0__2 h0__3) fun o1 =>
  match o1 with
  | .o0 v4 =>
   some (R11_aiirrz.o0 v4)
  | .o1 _ _ _ _ _ =>
   none
  | .o2 v5 v6 v7 v8 v9 v10 =>
   f11_aiirrz_j7 k v5 v6 v7 v8 v9 v10
theorem f11_aiirrz_j5_ok (k:Nat) (x5:Int) (x102:Bool) (h0_ h0__1:Int) (h0__2:List T65) (h0__3:List T39) (r:R11_aiirrz) (hF:f11_aiirrz_j5 k x5 x102 h0_ h0__1 h0__2 h0__3 = some r) : finK Try.prog Try.f11 0 (EX 11 k (nav B11 [2,2,2,2]) (⟨160,[(1,.ptr 30000 0),(5,.p (.int .i64 x5)),(102,.p (.bool x102))],[(30000,.box 26 [.p (.int .i64 h0_),.p (.int .u32 h0__1),.sl 4 (rowsOf encT65 h0__2),.sl 11 (rowsOf encT39 h0__3)])]⟩ : St)) = some r.st := by
 unfold f11_aiirrz_j5 at hF
 obtain ⟨o1,h2,hF⟩ := bs hF
 have hc3 := f11_aiirrz_l6_ok k k 0 h0_ h0__1 h0__2 h0__3 _ h2
 simp (maxSteps:=999999) (disch:=first|exact D (by decide)|exact K (by kernel_rfl)) only [E,EE,↓reduceIte,simprocAttr,xk B11 [2,2,2,2] .sq rfl,xk B11 [1,2,2,2,2] .sq rfl,rg B11 [1,1,2,2,2,2] 15 false rfl,hr_11_15,xk B11 [2,1,2,2,2,2] (.bk 4) rfl,xk B11 [2,2,1,2,2,2,2] .lp rfl,hh_11_16,hc_11_16]
 (try simp only [NM,EE] at hc3)
 rw [hc3 _ (by simp (maxSteps:=999999) (disch:=first|exact D (by decide)|exact K (by kernel_rfl)) only [E,EE,↓reduceIte,simprocAttr,hh_11_16,hc_11_16])]
 clear hc3
 cases o1 with
 | o0 v4 =>
  (try dsimp only at hF)
  cases hF
  simp (maxSteps:=999999) (disch:=first|exact D (by decide)|exact K (by kernel_rfl)) only [E,EE,↓reduceIte,simprocAttr,R11_aiirrz_l6.st,finK_norm,finK_ret,fin11,R11_aiirrz.st]
 | o1 _ _ _ _ _ =>
  (try dsimp only at hF)
  cases hF
 | o2 v5 v6 v7 v8 v9 v10 =>
  (try dsimp only at hF)
  have hJ := f11_aiirrz_j7_ok k v5 v6 v7 v8 v9 v10 _ hF
  simp (maxSteps:=999999) (disch:=first|exact D (by decide)|exact K (by kernel_rfl)) only [E,EE,↓reduceIte,simprocAttr,R11_aiirrz_l6.st]
  try simp only [NM,EE] at hJ
  exact hJ
noncomputable def f11_aiirrz_j3 (k:Nat) (x3:Int) (x40:Bool) (h0_ h0__1:Int) (h0__2:List T65) (h0__3:List T39) : Option R11_aiirrz :=
 Option.bind (f11_aiirrz_l4 k k 0 h0_ h0__1 h0__2 h0__3) fun o1 =>
  match o1 with
  | .o0 v4 =>
   some (R11_aiirrz.o0 v4)
  | .o1 _ _ _ _ _ =>
   none
  | .o2 v5 v6 v7 v8 v9 v10 =>
   f11_aiirrz_j5 k v5 v6 v7 v8 v9 v10
theorem f11_aiirrz_j3_ok (k:Nat) (x3:Int) (x40:Bool) (h0_ h0__1:Int) (h0__2:List T65) (h0__3:List T39) (r:R11_aiirrz) (hF:f11_aiirrz_j3 k x3 x40 h0_ h0__1 h0__2 h0__3 = some r) : finK Try.prog Try.f11 0 (EX 11 k (nav B11 [2,2,2]) (⟨160,[(1,.ptr 30000 0),(3,.p (.int .i64 x3)),(40,.p (.bool x40))],[(30000,.box 26 [.p (.int .i64 h0_),.p (.int .u32 h0__1),.sl 4 (rowsOf encT65 h0__2),.sl 11 (rowsOf encT39 h0__3)])]⟩ : St)) = some r.st := by
 unfold f11_aiirrz_j3 at hF
 obtain ⟨o1,h2,hF⟩ := bs hF
 have hc3 := f11_aiirrz_l4_ok k k 0 h0_ h0__1 h0__2 h0__3 _ h2
 simp (maxSteps:=999999) (disch:=first|exact D (by decide)|exact K (by kernel_rfl)) only [E,EE,↓reduceIte,simprocAttr,xk B11 [2,2,2] .sq rfl,xk B11 [1,2,2,2] .sq rfl,rg B11 [1,1,2,2,2] 9 false rfl,hr_11_9,xk B11 [2,1,2,2,2] (.bk 2) rfl,xk B11 [2,2,1,2,2,2] .lp rfl,hh_11_10,hc_11_10]
 (try simp only [NM,EE] at hc3)
 rw [hc3 _ (by simp (maxSteps:=999999) (disch:=first|exact D (by decide)|exact K (by kernel_rfl)) only [E,EE,↓reduceIte,simprocAttr,hh_11_10,hc_11_10])]
 clear hc3
 cases o1 with
 | o0 v4 =>
  (try dsimp only at hF)
  cases hF
  simp (maxSteps:=999999) (disch:=first|exact D (by decide)|exact K (by kernel_rfl)) only [E,EE,↓reduceIte,simprocAttr,R11_aiirrz_l4.st,finK_norm,finK_ret,fin11,R11_aiirrz.st]
 | o1 _ _ _ _ _ =>
  (try dsimp only at hF)
  cases hF
 | o2 v5 v6 v7 v8 v9 v10 =>
  (try dsimp only at hF)
  have hJ := f11_aiirrz_j5_ok k v5 v6 v7 v8 v9 v10 _ hF
  simp (maxSteps:=999999) (disch:=first|exact D (by decide)|exact K (by kernel_rfl)) only [E,EE,↓reduceIte,simprocAttr,R11_aiirrz_l4.st]
  try simp only [NM,EE] at hJ
  exact hJ
noncomputable def f11_aiirrz_j1 (k:Nat) (x35:Bool) (m1 m1_1:Int) (m1_2:List T65) (m1_3:List T39) : Option R11_aiirrz :=
 Option.bind (f11_aiirrz_l2 k k 0 m1 m1_1 m1_2 m1_3) fun o1 =>
  match o1 with
  | .o0 v4 =>
   some (R11_aiirrz.o0 v4)
  | .o1 _ _ _ _ _ =>
   none
  | .o2 v5 v6 v7 v8 v9 v10 =>
   f11_aiirrz_j3 k v5 v6 v7 v8 v9 v10
theorem f11_aiirrz_j1_ok (k:Nat) (x35:Bool) (m1 m1_1:Int) (m1_2:List T65) (m1_3:List T39) (r:R11_aiirrz) (hF:f11_aiirrz_j1 k x35 m1 m1_1 m1_2 m1_3 = some r) : finK Try.prog Try.f11 0 (EX 11 k (nav B11 [2,2]) (⟨160,[(1,.ptr 1 0),(35,.p (.bool x35))],[(1,.box 26 [.p (.int .i64 m1),.p (.int .u32 m1_1),.sl 4 (rowsOf encT65 m1_2),.sl 11 (rowsOf encT39 m1_3)])]⟩ : St)) = some r.st := by
 unfold f11_aiirrz_j1 at hF
 obtain ⟨o1,h2,hF⟩ := bs hF
 have hc3 := f11_aiirrz_l2_ok k k 0 m1 m1_1 m1_2 m1_3 _ h2
 simp (maxSteps:=999999) (disch:=first|exact D (by decide)|exact K (by kernel_rfl)) only [E,EE,↓reduceIte,simprocAttr,xk B11 [2,2] .sq rfl,xk B11 [1,2,2] .sq rfl,rg B11 [1,1,2,2] 3 false rfl,hr_11_3,xk B11 [2,1,2,2] (.bk 0) rfl,xk B11 [2,2,1,2,2] .lp rfl,hh_11_4,hc_11_4]
 (try simp only [NM,EE] at hc3)
 rw [hc3 _ (by simp (maxSteps:=999999) (disch:=first|exact D (by decide)|exact K (by kernel_rfl)) only [E,EE,↓reduceIte,simprocAttr,hh_11_4,hc_11_4])]
 clear hc3
 cases o1 with
 | o0 v4 =>
  (try dsimp only at hF)
  cases hF
  simp (maxSteps:=999999) (disch:=first|exact D (by decide)|exact K (by kernel_rfl)) only [E,EE,↓reduceIte,simprocAttr,R11_aiirrz_l2.st,finK_norm,finK_ret,fin11,R11_aiirrz.st]
 | o1 _ _ _ _ _ =>
  (try dsimp only at hF)
  cases hF
 | o2 v5 v6 v7 v8 v9 v10 =>
  (try dsimp only at hF)
  have hJ := f11_aiirrz_j3_ok k v5 v6 v7 v8 v9 v10 _ hF
  simp (maxSteps:=999999) (disch:=first|exact D (by decide)|exact K (by kernel_rfl)) only [E,EE,↓reduceIte,simprocAttr,R11_aiirrz_l2.st]
  try simp only [NM,EE] at hJ
  exact hJ
noncomputable def f11_aiirrz_e (k:Nat) (a0 a0_1:Int) (a0_2:List T65) (a0_3:List T39) : Option R11_aiirrz :=
 cond ((decide (a0 < 1)))
  (some (R11_aiirrz.o0 false))
  (
   cond ((decide (a0 > 6)))
    (some (R11_aiirrz.o0 false))
    (
     cond ((a0_1 == 0))
      (some (R11_aiirrz.o0 false))
      (
       cond ((decide (((List.length a0_2) : Int) > 64)))
        (some (R11_aiirrz.o0 false))
        (
         cond ((decide (((List.length a0_3) : Int) > 7)))
          (some (R11_aiirrz.o0 false))
          (f11_aiirrz_j1 k false a0 a0_1 a0_2 a0_3)))))
theorem f11_aiirrz_e_ok (k:Nat) (a0 a0_1:Int) (a0_2:List T65) (a0_3:List T39) (r:R11_aiirrz) (hF:f11_aiirrz_e k a0 a0_1 a0_2 a0_3 = some r) : finK Try.prog Try.f11 0 (EX 11 k (nav B11 []) (⟨160,[(0,.agg [.p (.int .i64 a0),.p (.int .u32 a0_1),.sl 4 (rowsOf encT65 a0_2),.sl 11 (rowsOf encT39 a0_3)])],[]⟩ : St)) = some r.st := by
 unfold f11_aiirrz_e at hF
 simp (maxSteps:=999999) (disch:=first|exact D (by decide)|exact K (by kernel_rfl)) only [E,EE,↓reduceIte,simprocAttr,xk B11 [] .sq rfl,rg B11 [1] 0 false rfl,hr_11_0,xk B11 [2] .sq rfl,xk B11 [1,2] .sq rfl,rg B11 [1,1,2] 1 false rfl,hr_11_1,fieldAddrV,t_26,t_3]
 rcases cond_some hF with ⟨h1,hF⟩ | ⟨h1,hF⟩
 ·cases hF
  simp (maxSteps:=999999) (disch:=first|exact D (by decide)|exact K (by kernel_rfl)) only [E,EE,↓reduceIte,simprocAttr,xk B11 [2,1,2] (.cd 35) rfl,xk B11 [2,2,1,2] .sq rfl,rg B11 [1,2,2,1,2] 2 false rfl,hr_11_2,xk B11 [2,2,2,1,2] .rt rfl,finK_norm,finK_ret,fin11,R11_aiirrz.st,h1]
 ·simp (maxSteps:=999999) (disch:=first|exact D (by decide)|exact K (by kernel_rfl)) only [E,EE,↓reduceIte,simprocAttr,fieldAddrV,t_26,t_3,h1]
  rcases cond_some hF with ⟨h2,hF⟩ | ⟨h2,hF⟩
  ·cases hF
   simp (maxSteps:=999999) (disch:=first|exact D (by decide)|exact K (by kernel_rfl)) only [E,EE,↓reduceIte,simprocAttr,xk B11 [2,1,2] (.cd 35) rfl,xk B11 [2,2,1,2] .sq rfl,rg B11 [1,2,2,1,2] 2 false rfl,hr_11_2,xk B11 [2,2,2,1,2] .rt rfl,finK_norm,finK_ret,fin11,R11_aiirrz.st,h1,h2]
  ·simp (maxSteps:=999999) (disch:=first|exact D (by decide)|exact K (by kernel_rfl)) only [E,EE,↓reduceIte,simprocAttr,fieldAddrV,t_26,t_22,h1,h2]
   rcases cond_some hF with ⟨h3,hF⟩ | ⟨h3,hF⟩
   ·cases hF
    simp (maxSteps:=999999) (disch:=first|exact D (by decide)|exact K (by kernel_rfl)) only [E,EE,↓reduceIte,simprocAttr,xk B11 [2,1,2] (.cd 35) rfl,xk B11 [2,2,1,2] .sq rfl,rg B11 [1,2,2,1,2] 2 false rfl,hr_11_2,xk B11 [2,2,2,1,2] .rt rfl,finK_norm,finK_ret,fin11,R11_aiirrz.st,h1,h2,h3]
   ·simp (maxSteps:=999999) (disch:=first|exact D (by decide)|exact K (by kernel_rfl)) only [E,EE,↓reduceIte,simprocAttr,fieldAddrV,t_26,t_23,h1,h2,h3]
    rcases cond_some hF with ⟨h4,hF⟩ | ⟨h4,hF⟩
    ·cases hF
     simp (maxSteps:=999999) (disch:=first|exact D (by decide)|exact K (by kernel_rfl)) only [E,EE,↓reduceIte,simprocAttr,xk B11 [2,1,2] (.cd 35) rfl,xk B11 [2,2,1,2] .sq rfl,rg B11 [1,2,2,1,2] 2 false rfl,hr_11_2,xk B11 [2,2,2,1,2] .rt rfl,finK_norm,finK_ret,fin11,R11_aiirrz.st,h1,h2,h3,h4]
    ·simp (maxSteps:=999999) (disch:=first|exact D (by decide)|exact K (by kernel_rfl)) only [E,EE,↓reduceIte,simprocAttr,fieldAddrV,t_26,t_24,xk B11 [2,1,2] (.cd 35) rfl,h1,h2,h3,h4]
     rcases cond_some hF with ⟨h5,hF⟩ | ⟨h5,hF⟩
     ·cases hF
      simp (maxSteps:=999999) (disch:=first|exact D (by decide)|exact K (by kernel_rfl)) only [E,EE,↓reduceIte,simprocAttr,xk B11 [2,2,1,2] .sq rfl,rg B11 [1,2,2,1,2] 2 false rfl,hr_11_2,xk B11 [2,2,2,1,2] .rt rfl,finK_norm,finK_ret,fin11,R11_aiirrz.st,h1,h2,h3,h4,h5]
     ·have hJ := f11_aiirrz_j1_ok k false a0 a0_1 a0_2 a0_3 _ hF
      simp (maxSteps:=999999) (disch:=first|exact D (by decide)|exact K (by kernel_rfl)) only [E,EE,↓reduceIte,simprocAttr,xk B11 [3,2,1,2] .sk rfl,h1,h2,h3,h4,h5]
      try simp only [NM,EE] at hJ
      exact hJ
noncomputable def f11_aiirrz (k:Nat) (a0 a0_1:Int) (a0_2:List T65) (a0_3:List T39) : Option R11_aiirrz := match k with | 0 => none | k + 1 => f11_aiirrz_e k a0 a0_1 a0_2 a0_3
theorem f11_aiirrz_ok (k:Nat) (a0 a0_1:Int) (a0_2:List T65) (a0_3:List T39) (r:R11_aiirrz) (hF:f11_aiirrz k a0 a0_1 a0_2 a0_3 = some r) : CV k 11 [.agg [.p (.int .i64 a0),.p (.int .u32 a0_1),.sl 4 (rowsOf encT65 a0_2),.sl 11 (rowsOf encT39 a0_3)]] [] = some r.st := by
 cases k with
 | zero => cases hF
 | succ k =>
  unfold CV
  rw [ev_call (F := Try.f11) (c := (nav B11 [])) rfl Try.func11 rfl rfl rfl rfl]
  exact f11_aiirrz_e_ok k a0 a0_1 a0_2 a0_3 r hF
end Go.Proofs.YticggdfaehneeaaV