/- What the program's functions answer: plain functions,and that the interpreter answers what they do. Written by a program of this session,out of the translation. -/
import Derived.Test.YticggdfaehneeaaVP5
namespace Go.Proofs.YticggdfaehneeaaV
open Go
set_option linter.unusedVariables false
set_option linter.unusedSimpArgs false
set_option maxRecDepth 8000
set_option maxHeartbeats 4000000
-- f19_aiirrz: f19 heliograph/agent.Check
inductive R19_aiirrz where
 | o0 (y:Int)
noncomputable def R19_aiirrz.st : R19_aiirrz → V × List O × List O
 | .o0 y => (.p (.int .i64 y),[],[])
inductive R19_aiirrz_l2 where
 | o0 (y:Int)
 | o1 (y:List T65) (y_1 y_2 y_3 y_4:Int) (y_5:List T65) (y_6:List T39)
 | o2 (y:List T65) (y_1 y_2:Int) (y_3:Bool) (y_4 y_5:Int) (y_6:List T65) (y_7:List T39)
noncomputable def R19_aiirrz_l2.st : R19_aiirrz_l2 → Out × St
 | .o0 y => (.ret,(⟨112,[(2,.p (.int .i64 y))],[]⟩ : St))
 | .o1 y y_1 y_2 y_3 y_4 y_5 y_6 => (.norm,(⟨112,[(1,.ptr 30000 0),(31,.sl 4 (rowsOf encT65 y)),(32,.p (.int .i64 y_1)),(33,.p (.int .i64 y_2))],[(30000,.box 26 [.p (.int .i64 y_3),.p (.int .u32 y_4),.sl 4 (rowsOf encT65 y_5),.sl 11 (rowsOf encT39 y_6)])]⟩ : St))
 | .o2 y y_1 y_2 y_3 y_4 y_5 y_6 y_7 => (.exit 0,(⟨112,[(1,.ptr 30000 0),(31,.sl 4 (rowsOf encT65 y)),(32,.p (.int .i64 y_1)),(33,.p (.int .i64 y_2)),(34,.p (.bool y_3))],[(30000,.box 26 [.p (.int .i64 y_4),.p (.int .u32 y_5),.sl 4 (rowsOf encT65 y_6),.sl 11 (rowsOf encT39 y_7)])]⟩ : St))
noncomputable def f19_aiirrz_l2_j2 (k:Nat) (x31:List T65) (x32 x33:Int) (x73:Bool) (h0_ h0__1:Int) (h0__2:List T65) (h0__3:List T39) : Option R19_aiirrz_l2 :=
 some (R19_aiirrz_l2.o1 x31 x32 (IntKind.i64.wrap (x33 + (1:Int))) h0_ h0__1 h0__2 h0__3)
theorem f19_aiirrz_l2_j2_ok (k:Nat) (x31:List T65) (x32 x33:Int) (x73:Bool) (h0_ h0__1:Int) (h0__2:List T65) (h0__3:List T39) (r:R19_aiirrz_l2) (hF:f19_aiirrz_l2_j2 k x31 x32 x33 x73 h0_ h0__1 h0__2 h0__3 = some r) : EX 19 k (nav B19 [2,2,2,1,2,2,1,2,2]) (⟨112,[(1,.ptr 30000 0),(31,.sl 4 (rowsOf encT65 x31)),(32,.p (.int .i64 x32)),(33,.p (.int .i64 x33)),(73,.p (.bool x73))],[(30000,.box 26 [.p (.int .i64 h0_),.p (.int .u32 h0__1),.sl 4 (rowsOf encT65 h0__2),.sl 11 (rowsOf encT39 h0__3)])]⟩ : St) = some r.st := by
 unfold f19_aiirrz_l2_j2 at hF
 cases hF
 simp (maxSteps:=999999) (disch:=first|exact D (by decide)|exact K (by kernel_rfl)) only [E,EE,↓reduceIte,simprocAttr,rg B19 [2,2,2,1,2,2,1,2,2] 8 false rfl,hr_19_8,R19_aiirrz_l2.st]
noncomputable def f19_aiirrz_l2_j1 (k:Nat) (x31:List T65) (x32 x33:Int) (x34:Bool) (h0_ h0__1:Int) (h0__2:List T65) (h0__3:List T39) : Option R19_aiirrz_l2 :=
 ifE ((0:Int) ≤ x33) (
  Option.bind (x31[(Int.toNat x33)]?) fun v2 =>
   Option.bind (f23_iii k v2.Key_Source 1 6) fun o4 =>
    match o4 with
    | .o0 v7 =>
     cond ((!v7))
      (some (R19_aiirrz_l2.o0 290))
      (
       cond ((v2.Key_Seq == 0))
        (some (R19_aiirrz_l2.o0 290))
        (
         Option.bind (f23_iii k v2.Key_Offset 0 400) fun o10 =>
          match o10 with
          | .o0 v13 =>
           cond ((!v13))
            (some (R19_aiirrz_l2.o0 290))
            (
             Option.bind (f23_iii k v2.N 1 (IntKind.i64.wrap ((400:Int) - v2.Key_Offset))) fun o15 =>
              match o15 with
              | .o0 v18 =>
               cond ((!v18))
                (some (R19_aiirrz_l2.o0 290))
                (
                 Option.bind (f33_rai4z k h0__2 v2.Key_Source v2.Key_Seq v2.Key_Offset v2.N) fun o20 =>
                  match o20 with
                  | .o0 v23 =>
                   cond ((v23 != x33))
                    (some (R19_aiirrz_l2.o0 290))
                    (f19_aiirrz_l2_j2 k x31 x32 x33 false h0_ h0__1 h0__2 h0__3))))))
theorem f19_aiirrz_l2_j1_ok (k:Nat) (x31:List T65) (x32 x33:Int) (x34:Bool) (h0_ h0__1:Int) (h0__2:List T65) (h0__3:List T39) (r:R19_aiirrz_l2) (hF:f19_aiirrz_l2_j1 k x31 x32 x33 x34 h0_ h0__1 h0__2 h0__3 = some r) : EX 19 k (nav B19 [2,2,1,2,2,1,2,2]) (⟨112,[(1,.ptr 30000 0),(31,.sl 4 (rowsOf encT65 x31)),(32,.p (.int .i64 x32)),(33,.p (.int .i64 x33)),(34,.p (.bool x34))],[(30000,.box 26 [.p (.int .i64 h0_),.p (.int .u32 h0__1),.sl 4 (rowsOf encT65 h0__2),.sl 11 (rowsOf encT39 h0__3)])]⟩ : St) = some r.st := by
 unfold f19_aiirrz_l2_j1 at hF
 obtain ⟨h1,hF⟩ := ifE_some.1 hF
 obtain ⟨v2,h3,hF⟩ := bs hF
 obtain ⟨o4,h5,hF⟩ := bs hF
 have hc6 := f23_iii_ok k v2.Key_Source 1 6 _ h5
 cases o4 with
 | o0 v7 =>
  (try dsimp only at hF)
  (try simp only [NM,EE,R23_iii.st] at hc6)
  simp (maxSteps:=999999) (disch:=first|exact D (by decide)|exact K (by kernel_rfl)) only [E,EE,↓reduceIte,simprocAttr,xk B19 [2,2,1,2,2,1,2,2] .sq rfl,xk B19 [1,2,2,1,2,2,1,2,2] (.bk 1) rfl,xk B19 [2,1,2,2,1,2,2,1,2,2] .sq rfl,rg B19 [1,2,1,2,2,1,2,2,1,2,2] 5 false rfl,hr_19_5,indexAddrV,t_23,t_65,encT65_eq,xk B19 [2,2,1,2,2,1,2,2,1,2,2] .sq rfl,rg B19 [1,2,2,1,2,2,1,2,2,1,2,2] 6 false rfl,hr_19_6,fieldAddrV,t_63,t_3,callStep,CL,gv,List.contains,h1,h3,hc6]
  rcases cond_some hF with ⟨h8,hF⟩ | ⟨h8,hF⟩
  ·cases hF
   simp (maxSteps:=999999) (disch:=first|exact D (by decide)|exact K (by kernel_rfl)) only [E,EE,↓reduceIte,simprocAttr,xk B19 [2,2,2,1,2,2,1,2,2,1,2,2] (.cd 73) rfl,xk B19 [2,2,2,2,1,2,2,1,2,2,1,2,2] .sq rfl,rg B19 [1,2,2,2,2,1,2,2,1,2,2,1,2,2] 7 false rfl,hr_19_7,xk B19 [2,2,2,2,2,1,2,2,1,2,2,1,2,2] .rt rfl,R19_aiirrz_l2.st,h1,h3,hc6,h8]
  ·simp (maxSteps:=999999) (disch:=first|exact D (by decide)|exact K (by kernel_rfl)) only [E,EE,↓reduceIte,simprocAttr,fieldAddrV,t_65,t_63,t_22,h1,h3,hc6,h8]
   rcases cond_some hF with ⟨h9,hF⟩ | ⟨h9,hF⟩
   ·cases hF
    simp (maxSteps:=999999) (disch:=first|exact D (by decide)|exact K (by kernel_rfl)) only [E,EE,↓reduceIte,simprocAttr,xk B19 [2,2,2,1,2,2,1,2,2,1,2,2] (.cd 73) rfl,xk B19 [2,2,2,2,1,2,2,1,2,2,1,2,2] .sq rfl,rg B19 [1,2,2,2,2,1,2,2,1,2,2,1,2,2] 7 false rfl,hr_19_7,xk B19 [2,2,2,2,2,1,2,2,1,2,2,1,2,2] .rt rfl,R19_aiirrz_l2.st,h1,h3,hc6,h8,h9]
   ·obtain ⟨o10,h11,hF⟩ := bs hF
    have hc12 := f23_iii_ok k v2.Key_Offset 0 400 _ h11
    cases o10 with
    | o0 v13 =>
     (try dsimp only at hF)
     (try simp only [NM,EE,R23_iii.st] at hc12)
     simp (maxSteps:=999999) (disch:=first|exact D (by decide)|exact K (by kernel_rfl)) only [E,EE,↓reduceIte,simprocAttr,fieldAddrV,t_65,t_63,t_3,callStep,CL,gv,List.contains,h1,h3,hc6,h8,h9,hc12]
     rcases cond_some hF with ⟨h14,hF⟩ | ⟨h14,hF⟩
     ·cases hF
      simp (maxSteps:=999999) (disch:=first|exact D (by decide)|exact K (by kernel_rfl)) only [E,EE,↓reduceIte,simprocAttr,xk B19 [2,2,2,1,2,2,1,2,2,1,2,2] (.cd 73) rfl,xk B19 [2,2,2,2,1,2,2,1,2,2,1,2,2] .sq rfl,rg B19 [1,2,2,2,2,1,2,2,1,2,2,1,2,2] 7 false rfl,hr_19_7,xk B19 [2,2,2,2,2,1,2,2,1,2,2,1,2,2] .rt rfl,R19_aiirrz_l2.st,h1,h3,hc6,h8,h9,hc12,h14]
     ·obtain ⟨o15,h16,hF⟩ := bs hF
      have hc17 := f23_iii_ok k v2.N 1 (IntKind.i64.wrap ((400:Int) - v2.Key_Offset)) _ h16
      cases o15 with
      | o0 v18 =>
       (try dsimp only at hF)
       (try simp only [NM,EE,R23_iii.st] at hc17)
       simp (maxSteps:=999999) (disch:=first|exact D (by decide)|exact K (by kernel_rfl)) only [E,EE,↓reduceIte,simprocAttr,fieldAddrV,t_65,t_3,t_63,callStep,CL,gv,List.contains,h1,h3,hc6,h8,h9,hc12,h14,hc17]
       rcases cond_some hF with ⟨h19,hF⟩ | ⟨h19,hF⟩
       ·cases hF
        simp (maxSteps:=999999) (disch:=first|exact D (by decide)|exact K (by kernel_rfl)) only [E,EE,↓reduceIte,simprocAttr,xk B19 [2,2,2,1,2,2,1,2,2,1,2,2] (.cd 73) rfl,xk B19 [2,2,2,2,1,2,2,1,2,2,1,2,2] .sq rfl,rg B19 [1,2,2,2,2,1,2,2,1,2,2,1,2,2] 7 false rfl,hr_19_7,xk B19 [2,2,2,2,2,1,2,2,1,2,2,1,2,2] .rt rfl,R19_aiirrz_l2.st,h1,h3,hc6,h8,h9,hc12,h14,hc17,h19]
       ·obtain ⟨o20,h21,hF⟩ := bs hF
        have hc22 := f33_rai4z_ok k h0__2 v2.Key_Source v2.Key_Seq v2.Key_Offset v2.N _ h21
        cases o20 with
        | o0 v23 =>
         (try dsimp only at hF)
         (try simp only [NM,EE,R33_rai4z.st] at hc22)
         simp (maxSteps:=999999) (disch:=first|exact D (by decide)|exact K (by kernel_rfl)) only [E,EE,↓reduceIte,simprocAttr,fieldAddrV,t_26,t_23,t_65,callStep,CL,gv,List.contains,xk B19 [2,2,2,1,2,2,1,2,2,1,2,2] (.cd 73) rfl,h1,h3,hc6,h8,h9,hc12,h14,hc17,h19,hc22]
         rcases cond_some hF with ⟨h24,hF⟩ | ⟨h24,hF⟩
         ·cases hF
          simp (maxSteps:=999999) (disch:=first|exact D (by decide)|exact K (by kernel_rfl)) only [E,EE,↓reduceIte,simprocAttr,xk B19 [2,2,2,2,1,2,2,1,2,2,1,2,2] .sq rfl,rg B19 [1,2,2,2,2,1,2,2,1,2,2,1,2,2] 7 false rfl,hr_19_7,xk B19 [2,2,2,2,2,1,2,2,1,2,2,1,2,2] .rt rfl,R19_aiirrz_l2.st,h1,h3,hc6,h8,h9,hc12,h14,hc17,h19,hc22,h24]
         ·have hJ := f19_aiirrz_l2_j2_ok k x31 x32 x33 false h0_ h0__1 h0__2 h0__3 _ hF
          simp (maxSteps:=999999) (disch:=first|exact D (by decide)|exact K (by kernel_rfl)) only [E,EE,↓reduceIte,simprocAttr,xk B19 [3,2,2,2,1,2,2,1,2,2,1,2,2] .sk rfl,h1,h3,hc6,h8,h9,hc12,h14,hc17,h19,hc22,h24]
          try simp only [NM,EE] at hJ
          exact hJ
noncomputable def f19_aiirrz_l2_b (k:Nat) (x31:List T65) (x32 x33 h0_ h0__1:Int) (h0__2:List T65) (h0__3:List T39) : Option R19_aiirrz_l2 :=
 cond ((decide (x33 < x32)))
  (f19_aiirrz_l2_j1 k x31 x32 x33 true h0_ h0__1 h0__2 h0__3)
  (some (R19_aiirrz_l2.o2 x31 x32 x33 false h0_ h0__1 h0__2 h0__3))
theorem f19_aiirrz_l2_b_ok (k:Nat) (x31:List T65) (x32 x33 h0_ h0__1:Int) (h0__2:List T65) (h0__3:List T39) (r:R19_aiirrz_l2) (hF:f19_aiirrz_l2_b k x31 x32 x33 h0_ h0__1 h0__2 h0__3 = some r) : EX 19 k (nav B19 [1,2,2,1,2,2]) (⟨112,[(1,.ptr 30000 0),(31,.sl 4 (rowsOf encT65 x31)),(32,.p (.int .i64 x32)),(33,.p (.int .i64 x33))],[(30000,.box 26 [.p (.int .i64 h0_),.p (.int .u32 h0__1),.sl 4 (rowsOf encT65 h0__2),.sl 11 (rowsOf encT39 h0__3)])]⟩ : St) = some r.st := by
 unfold f19_aiirrz_l2_b at hF
 simp (maxSteps:=999999) (disch:=first|exact D (by decide)|exact K (by kernel_rfl)) only [E,EE,↓reduceIte,simprocAttr,xk B19 [1,2,2,1,2,2] .sq rfl,rg B19 [1,1,2,2,1,2,2] 4 false rfl,hr_19_4,xk B19 [2,1,2,2,1,2,2] .sq rfl,xk B19 [1,2,1,2,2,1,2,2] (.cd 34) rfl]
 rcases cond_some hF with ⟨h1,hF⟩ | ⟨h1,hF⟩
 ·have hJ := f19_aiirrz_l2_j1_ok k x31 x32 x33 true h0_ h0__1 h0__2 h0__3 _ hF
  simp (maxSteps:=999999) (disch:=first|exact D (by decide)|exact K (by kernel_rfl)) only [E,EE,↓reduceIte,simprocAttr,xk B19 [2,1,2,1,2,2,1,2,2] .sk rfl,h1]
  try simp only [NM,EE] at hJ
  exact hJ
 ·cases hF
  simp (maxSteps:=999999) (disch:=first|exact D (by decide)|exact K (by kernel_rfl)) only [E,EE,↓reduceIte,simprocAttr,xk B19 [3,1,2,1,2,2,1,2,2] (.ex 0) rfl,R19_aiirrz_l2.st,h1]
noncomputable def f19_aiirrz_l2 (k:Nat) : Nat → (List T65) → Int → Int → Int → Int → (List T65) → (List T39) → Option R19_aiirrz_l2
 | 0,_,_,_,_,_,_,_ => none
 | n + 1,x31,x32,x33,h0_,h0__1,h0__2,h0__3 => Option.bind (f19_aiirrz_l2_b k x31 x32 x33 h0_ h0__1 h0__2 h0__3) fun o =>
  match o with
  | .o0 y => some (.o0 y)
  | .o1 y y_1 y_2 y_3 y_4 y_5 y_6 => f19_aiirrz_l2 k n y y_1 y_2 y_3 y_4 y_5 y_6
  | .o2 y y_1 y_2 y_3 y_4 y_5 y_6 y_7 => some (.o2 y y_1 y_2 y_3 y_4 y_5 y_6 y_7)
theorem f19_aiirrz_l2_ok (k n:Nat) : ∀ (x31:List T65) (x32 x33 h0_ h0__1:Int) (h0__2:List T65) (h0__3:List T39) (r:R19_aiirrz_l2) (hF:f19_aiirrz_l2 k n x31 x32 x33 h0_ h0__1 h0__2 h0__3 = some r) (σ:St) (hσ:headR (hints.head 19 4) (hints.canon 19 4) σ = some (⟨112,[(1,.ptr 30000 0),(31,.sl 4 (rowsOf encT65 x31)),(32,.p (.int .i64 x32)),(33,.p (.int .i64 x33))],[(30000,.box 26 [.p (.int .i64 h0_),.p (.int .u32 h0__1),.sl 4 (rowsOf encT65 h0__2),.sl 11 (rowsOf encT39 h0__3)])]⟩ : St)),LP 19 k (nav B19 [1,2,2,1,2,2]) n σ = some r.st := by
 induction n with
 | zero => intro x31 x32 x33 h0_ h0__1 h0__2 h0__3 r hF; cases hF
 | succ n ih =>
  intro x31 x32 x33 h0_ h0__1 h0__2 h0__3 r hF σ hσ
  rw [f19_aiirrz_l2] at hF
  obtain ⟨o,h,hF⟩ := Option.bind_eq_some_iff.1 hF
  have hB := f19_aiirrz_l2_b_ok k x31 x32 x33 h0_ h0__1 h0__2 h0__3 o h
  unfold LP at ih ⊢
  unfold EX at hB
  rw [loopK_succ,show firstReg (nav B19 [1,2,2,1,2,2]) = 4 from rfl,hσ,headK_some,hB]
  cases o with
  | o0 y => cases hF; rfl
  | o1 y y_1 y_2 y_3 y_4 y_5 y_6 =>
   refine ih y y_1 y_2 y_3 y_4 y_5 y_6 r hF _ ?_
   simp (maxSteps:=999999) (disch:=first|exact D (by decide)|exact K (by kernel_rfl)) only [E,EE,↓reduceIte,simprocAttr,hh_19_4,hc_19_4]
  | o2 y y_1 y_2 y_3 y_4 y_5 y_6 y_7 => cases hF; rfl
inductive R19_aiirrz_l4 where
 | o0 (y:Int)
 | o1 (y:List T39) (y_1 y_2 y_3 y_4:Int) (y_5:List T65) (y_6:List T39)
 | o2 (y:List T39) (y_1 y_2:Int) (y_3:Bool) (y_4 y_5:Int) (y_6:List T65) (y_7:List T39)
noncomputable def R19_aiirrz_l4.st : R19_aiirrz_l4 → Out × St
 | .o0 y => (.ret,(⟨112,[(2,.p (.int .i64 y))],[]⟩ : St))
 | .o1 y y_1 y_2 y_3 y_4 y_5 y_6 => (.norm,(⟨112,[(1,.ptr 30000 0),(76,.sl 11 (rowsOf encT39 y)),(77,.p (.int .i64 y_1)),(78,.p (.int .i64 y_2))],[(30000,.box 26 [.p (.int .i64 y_3),.p (.int .u32 y_4),.sl 4 (rowsOf encT65 y_5),.sl 11 (rowsOf encT39 y_6)])]⟩ : St))
 | .o2 y y_1 y_2 y_3 y_4 y_5 y_6 y_7 => (.exit 2,(⟨112,[(1,.ptr 30000 0),(76,.sl 11 (rowsOf encT39 y)),(77,.p (.int .i64 y_1)),(78,.p (.int .i64 y_2)),(79,.p (.bool y_3))],[(30000,.box 26 [.p (.int .i64 y_4),.p (.int .u32 y_5),.sl 4 (rowsOf encT65 y_6),.sl 11 (rowsOf encT39 y_7)])]⟩ : St))
noncomputable def f19_aiirrz_l4_j3 (k:Nat) (x76:List T39) (x77 x78:Int) (x110:Bool) (h0_ h0__1:Int) (h0__2:List T65) (h0__3:List T39) : Option R19_aiirrz_l4 :=
 some (R19_aiirrz_l4.o1 x76 x77 (IntKind.i64.wrap (x78 + (1:Int))) h0_ h0__1 h0__2 h0__3)
theorem f19_aiirrz_l4_j3_ok (k:Nat) (x76:List T39) (x77 x78:Int) (x110:Bool) (h0_ h0__1:Int) (h0__2:List T65) (h0__3:List T39) (r:R19_aiirrz_l4) (hF:f19_aiirrz_l4_j3 k x76 x77 x78 x110 h0_ h0__1 h0__2 h0__3 = some r) : EX 19 k (nav B19 [2,2,2,1,2,2,1,2,2,2]) (⟨112,[(1,.ptr 30000 0),(76,.sl 11 (rowsOf encT39 x76)),(77,.p (.int .i64 x77)),(78,.p (.int .i64 x78)),(110,.p (.bool x110))],[(30000,.box 26 [.p (.int .i64 h0_),.p (.int .u32 h0__1),.sl 4 (rowsOf encT65 h0__2),.sl 11 (rowsOf encT39 h0__3)])]⟩ : St) = some r.st := by
 unfold f19_aiirrz_l4_j3 at hF
 cases hF
 simp (maxSteps:=999999) (disch:=first|exact D (by decide)|exact K (by kernel_rfl)) only [E,EE,↓reduceIte,simprocAttr,rg B19 [2,2,2,1,2,2,1,2,2,2] 17 false rfl,hr_19_17,R19_aiirrz_l4.st]
noncomputable def f19_aiirrz_l4_j2 (k:Nat) (x76:List T39) (x77 x78:Int) (x95:Bool) (h0_ h0__1:Int) (h0__2:List T65) (h0__3:List T39) (m6 m6_1 m6_2 m6_3 m6_4 m6_5 m6_6 m6_7 m6_8 m6_9:Int) (m6_10:List Int) : Option R19_aiirrz_l4 :=
 Option.bind (f37_ai10rz k m6 m6_1 m6_2 m6_3 m6_4 m6_5 m6_6 m6_7 m6_8 m6_9 m6_10) fun o1 =>
  match o1 with
  | .o0 v4 v5 =>
   Option.bind (f36_aiirrzaiiz k h0_ h0__1 h0__2 h0__3 v4 v5) fun o6 =>
    match o6 with
    | .o0 v9 =>
     Option.bind (f35_r k v9) fun o10 =>
      match o10 with
      | .o0 v13 v14 =>
       cond ((v13 != 0))
        (some (R19_aiirrz_l4.o0 290))
        (
         cond ((((List.length v14) : Int) == 0))
          (some (R19_aiirrz_l4.o0 290))
          (f19_aiirrz_l4_j3 k x76 x77 x78 false h0_ h0__1 h0__2 h0__3))
theorem f19_aiirrz_l4_j2_ok (k:Nat) (x76:List T39) (x77 x78:Int) (x95:Bool) (h0_ h0__1:Int) (h0__2:List T65) (h0__3:List T39) (m6 m6_1 m6_2 m6_3 m6_4 m6_5 m6_6 m6_7 m6_8 m6_9:Int) (m6_10:List Int) (r:R19_aiirrz_l4) (hF:f19_aiirrz_l4_j2 k x76 x77 x78 x95 h0_ h0__1 h0__2 h0__3 m6 m6_1 m6_2 m6_3 m6_4 m6_5 m6_6 m6_7 m6_8 m6_9 m6_10 = some r) : SQ 19 k (nav B19 [2,2,2,1,2,2,1,2,2,2]) (blockK 3 (EX 19 k (nav B19 [2,2,2,1,2,2,1,2,2,1,2,2,2]) (⟨112,[(1,.ptr 30000 0),(6,.ptr 6 0),(76,.sl 11 (rowsOf encT39 x76)),(77,.p (.int .i64 x77)),(78,.p (.int .i64 x78)),(95,.p (.bool x95))],[(30000,.box 26 [.p (.int .i64 h0_),.p (.int .u32 h0__1),.sl 4 (rowsOf encT65 h0__2),.sl 11 (rowsOf encT39 h0__3)]),(6,.box 39 [.p (.int .i64 m6),.p (.int .i64 m6_1),.p (.int .u32 m6_2),.p (.int .i64 m6_3),.p (.int .i64 m6_4),.p (.int .i64 m6_5),.p (.int .i64 m6_6),.p (.int .i64 m6_7),.p (.int .i64 m6_8),.p (.int .i64 m6_9),.sl 1 (rowsOf (encI .u8) m6_10)])]⟩ : St))) = some r.st := by
 unfold f19_aiirrz_l4_j2 at hF
 obtain ⟨o1,h2,hF⟩ := bs hF
 have hc3 := f37_ai10rz_ok k m6 m6_1 m6_2 m6_3 m6_4 m6_5 m6_6 m6_7 m6_8 m6_9 m6_10 _ h2
 cases o1 with
 | o0 v4 v5 =>
  (try dsimp only at hF)
  (try simp only [NM,EE,R37_ai10rz.st] at hc3)
  obtain ⟨o6,h7,hF⟩ := bs hF
  have hc8 := f36_aiirrzaiiz_ok k h0_ h0__1 h0__2 h0__3 v4 v5 _ h7
  cases o6 with
  | o0 v9 =>
   (try dsimp only at hF)
   (try simp only [NM,EE,R36_aiirrzaiiz.st] at hc8)
   obtain ⟨o10,h11,hF⟩ := bs hF
   have hc12 := f35_r_ok k v9 _ h11
   cases o10 with
   | o0 v13 v14 =>
    (try dsimp only at hF)
    (try simp only [NM,EE,R35_r.st] at hc12)
    simp (maxSteps:=999999) (disch:=first|exact D (by decide)|exact K (by kernel_rfl)) only [E,EE,↓reduceIte,simprocAttr,xk B19 [2,2,2,1,2,2,1,2,2,1,2,2,2] .sq rfl,rg B19 [1,2,2,2,1,2,2,1,2,2,1,2,2,2] 14 true rfl,hr_19_14,t_26,t_39,callStep,CL,gv,List.contains,xk B19 [2,2,2,2,1,2,2,1,2,2,1,2,2,2] .sq rfl,rg B19 [1,2,2,2,2,1,2,2,1,2,2,1,2,2,2] 15 false rfl,hr_19_15,hc3,hc8,hc12]
    rcases cond_some hF with ⟨h15,hF⟩ | ⟨h15,hF⟩
    ·cases hF
     simp (maxSteps:=999999) (disch:=first|exact D (by decide)|exact K (by kernel_rfl)) only [E,EE,↓reduceIte,simprocAttr,xk B19 [2,2,2,2,2,1,2,2,1,2,2,1,2,2,2] (.cd 110) rfl,xk B19 [2,2,2,2,2,2,1,2,2,1,2,2,1,2,2,2] .sq rfl,rg B19 [1,2,2,2,2,2,2,1,2,2,1,2,2,1,2,2,2] 16 false rfl,hr_19_16,xk B19 [2,2,2,2,2,2,2,1,2,2,1,2,2,1,2,2,2] .rt rfl,R19_aiirrz_l4.st,hc3,hc8,hc12,h15]
    ·simp (maxSteps:=999999) (disch:=first|exact D (by decide)|exact K (by kernel_rfl)) only [E,EE,↓reduceIte,simprocAttr,t_74,xk B19 [2,2,2,2,2,1,2,2,1,2,2,1,2,2,2] (.cd 110) rfl,hc3,hc8,hc12,h15]
     rcases cond_some hF with ⟨h16,hF⟩ | ⟨h16,hF⟩
     ·cases hF
      simp (maxSteps:=999999) (disch:=first|exact D (by decide)|exact K (by kernel_rfl)) only [E,EE,↓reduceIte,simprocAttr,xk B19 [2,2,2,2,2,2,1,2,2,1,2,2,1,2,2,2] .sq rfl,rg B19 [1,2,2,2,2,2,2,1,2,2,1,2,2,1,2,2,2] 16 false rfl,hr_19_16,xk B19 [2,2,2,2,2,2,2,1,2,2,1,2,2,1,2,2,2] .rt rfl,R19_aiirrz_l4.st,hc3,hc8,hc12,h15,h16]
     ·have hJ := f19_aiirrz_l4_j3_ok k x76 x77 x78 false h0_ h0__1 h0__2 h0__3 _ hF
      simp (maxSteps:=999999) (disch:=first|exact D (by decide)|exact K (by kernel_rfl)) only [E,EE,↓reduceIte,simprocAttr,xk B19 [3,2,2,2,2,2,1,2,2,1,2,2,1,2,2,2] .sk rfl,hc3,hc8,hc12,h15,h16]
      try simp only [NM,EE] at hJ
      exact hJ
noncomputable def f19_aiirrz_l4_j1 (k:Nat) (x76:List T39) (x77 x78:Int) (x79:Bool) (h0_ h0__1:Int) (h0__2:List T65) (h0__3:List T39) : Option R19_aiirrz_l4 :=
 ifE ((0:Int) ≤ x78) (
  Option.bind (x76[(Int.toNat x78)]?) fun v2 =>
   Option.bind (f24_ai10rz k v2.Source v2.Dest v2.Seq v2.Created v2.Lifetime v2.HopLimit v2.Hops v2.Priority v2.Offset v2.Total v2.Payload) fun o4 =>
    match o4 with
    | .o0 v7 =>
     cond ((v7 != 0))
      (some (R19_aiirrz_l4.o0 290))
      (
       cond ((v2.Dest != h0_))
        (some (R19_aiirrz_l4.o0 290))
        (
         Option.bind (f34_ai10rz k v2.Source v2.Dest v2.Seq v2.Created v2.Lifetime v2.HopLimit v2.Hops v2.Priority v2.Offset v2.Total v2.Payload) fun o10 =>
          match o10 with
          | .o0 v13 =>
           cond (v13)
            (some (R19_aiirrz_l4.o0 290))
            (f19_aiirrz_l4_j2 k x76 x77 x78 false h0_ h0__1 h0__2 h0__3 v2.Source v2.Dest v2.Seq v2.Created v2.Lifetime v2.HopLimit v2.Hops v2.Priority v2.Offset v2.Total v2.Payload))))
theorem f19_aiirrz_l4_j1_ok (k:Nat) (x76:List T39) (x77 x78:Int) (x79:Bool) (h0_ h0__1:Int) (h0__2:List T65) (h0__3:List T39) (r:R19_aiirrz_l4) (hF:f19_aiirrz_l4_j1 k x76 x77 x78 x79 h0_ h0__1 h0__2 h0__3 = some r) : EX 19 k (nav B19 [2,2,1,2,2,1,2,2,2]) (⟨112,[(1,.ptr 30000 0),(76,.sl 11 (rowsOf encT39 x76)),(77,.p (.int .i64 x77)),(78,.p (.int .i64 x78)),(79,.p (.bool x79))],[(30000,.box 26 [.p (.int .i64 h0_),.p (.int .u32 h0__1),.sl 4 (rowsOf encT65 h0__2),.sl 11 (rowsOf encT39 h0__3)])]⟩ : St) = some r.st := by
 unfold f19_aiirrz_l4_j1 at hF
 obtain ⟨h1,hF⟩ := ifE_some.1 hF
 obtain ⟨v2,h3,hF⟩ := bs hF
 obtain ⟨o4,h5,hF⟩ := bs hF
 have hc6 := f24_ai10rz_ok k v2.Source v2.Dest v2.Seq v2.Created v2.Lifetime v2.HopLimit v2.Hops v2.Priority v2.Offset v2.Total v2.Payload _ h5
 cases o4 with
 | o0 v7 =>
  (try dsimp only at hF)
  (try simp only [NM,EE,R24_ai10rz.st] at hc6)
  simp (maxSteps:=999999) (disch:=first|exact D (by decide)|exact K (by kernel_rfl)) only [E,EE,↓reduceIte,simprocAttr,xk B19 [2,2,1,2,2,1,2,2,2] .sq rfl,xk B19 [1,2,2,1,2,2,1,2,2,2] (.bk 3) rfl,xk B19 [2,1,2,2,1,2,2,1,2,2,2] .sq rfl,rg B19 [1,2,1,2,2,1,2,2,1,2,2,2] 11 false rfl,hr_19_11,indexAddrV,t_24,t_39,encT39_eq,xk B19 [2,2,1,2,2,1,2,2,1,2,2,2] .sq rfl,xk B19 [1,2,2,1,2,2,1,2,2,1,2,2,2] .sq rfl,rg B19 [1,1,2,2,1,2,2,1,2,2,1,2,2,2] 12 false rfl,hr_19_12,callStep,CL,gv,List.contains,h1,h3,hc6]
  rcases cond_some hF with ⟨h8,hF⟩ | ⟨h8,hF⟩
  ·cases hF
   simp (maxSteps:=999999) (disch:=first|exact D (by decide)|exact K (by kernel_rfl)) only [E,EE,↓reduceIte,simprocAttr,xk B19 [2,1,2,2,1,2,2,1,2,2,1,2,2,2] (.cd 95) rfl,xk B19 [2,2,1,2,2,1,2,2,1,2,2,1,2,2,2] .sq rfl,rg B19 [1,2,2,1,2,2,1,2,2,1,2,2,1,2,2,2] 13 false rfl,hr_19_13,xk B19 [2,2,2,1,2,2,1,2,2,1,2,2,1,2,2,2] .rt rfl,R19_aiirrz_l4.st,h1,h3,hc6,h8]
  ·simp (maxSteps:=999999) (disch:=first|exact D (by decide)|exact K (by kernel_rfl)) only [E,EE,↓reduceIte,simprocAttr,fieldAddrV,t_39,t_3,t_26,h1,h3,hc6,h8]
   rcases cond_some hF with ⟨h9,hF⟩ | ⟨h9,hF⟩
   ·cases hF
    simp (maxSteps:=999999) (disch:=first|exact D (by decide)|exact K (by kernel_rfl)) only [E,EE,↓reduceIte,simprocAttr,xk B19 [2,1,2,2,1,2,2,1,2,2,1,2,2,2] (.cd 95) rfl,xk B19 [2,2,1,2,2,1,2,2,1,2,2,1,2,2,2] .sq rfl,rg B19 [1,2,2,1,2,2,1,2,2,1,2,2,1,2,2,2] 13 false rfl,hr_19_13,xk B19 [2,2,2,1,2,2,1,2,2,1,2,2,1,2,2,2] .rt rfl,R19_aiirrz_l4.st,h1,h3,hc6,h8,h9]
   ·obtain ⟨o10,h11,hF⟩ := bs hF
    have hc12 := f34_ai10rz_ok k v2.Source v2.Dest v2.Seq v2.Created v2.Lifetime v2.HopLimit v2.Hops v2.Priority v2.Offset v2.Total v2.Payload _ h11
    cases o10 with
    | o0 v13 =>
     (try dsimp only at hF)
     (try simp only [NM,EE,R34_ai10rz.st] at hc12)
     simp (maxSteps:=999999) (disch:=first|exact D (by decide)|exact K (by kernel_rfl)) only [E,EE,↓reduceIte,simprocAttr,t_39,callStep,CL,gv,List.contains,xk B19 [2,1,2,2,1,2,2,1,2,2,1,2,2,2] (.cd 95) rfl,h1,h3,hc6,h8,h9,hc12]
     rcases cond_some hF with ⟨h14,hF⟩ | ⟨h14,hF⟩
     ·cases hF
      simp (maxSteps:=999999) (disch:=first|exact D (by decide)|exact K (by kernel_rfl)) only [E,EE,↓reduceIte,simprocAttr,xk B19 [2,2,1,2,2,1,2,2,1,2,2,1,2,2,2] .sq rfl,rg B19 [1,2,2,1,2,2,1,2,2,1,2,2,1,2,2,2] 13 false rfl,hr_19_13,xk B19 [2,2,2,1,2,2,1,2,2,1,2,2,1,2,2,2] .rt rfl,R19_aiirrz_l4.st,h1,h3,hc6,h8,h9,hc12,h14]
     ·have hJ := f19_aiirrz_l4_j2_ok k x76 x77 x78 false h0_ h0__1 h0__2 h0__3 v2.Source v2.Dest v2.Seq v2.Created v2.Lifetime v2.HopLimit v2.Hops v2.Priority v2.Offset v2.Total v2.Payload _ hF
      simp (maxSteps:=999999) (disch:=first|exact D (by decide)|exact K (by kernel_rfl)) only [E,EE,↓reduceIte,simprocAttr,xk B19 [3,2,1,2,2,1,2,2,1,2,2,1,2,2,2] .sk rfl,h1,h3,hc6,h8,h9,hc12,h14]
      try simp only [NM,EE] at hJ
      exact hJ
noncomputable def f19_aiirrz_l4_b (k:Nat) (x76:List T39) (x77 x78 h0_ h0__1:Int) (h0__2:List T65) (h0__3:List T39) : Option R19_aiirrz_l4 :=
 cond ((decide (x78 < x77)))
  (f19_aiirrz_l4_j1 k x76 x77 x78 true h0_ h0__1 h0__2 h0__3)
  (some (R19_aiirrz_l4.o2 x76 x77 x78 false h0_ h0__1 h0__2 h0__3))
theorem f19_aiirrz_l4_b_ok (k:Nat) (x76:List T39) (x77 x78 h0_ h0__1:Int) (h0__2:List T65) (h0__3:List T39) (r:R19_aiirrz_l4) (hF:f19_aiirrz_l4_b k x76 x77 x78 h0_ h0__1 h0__2 h0__3 = some r) : EX 19 k (nav B19 [1,2,2,1,2,2,2]) (⟨112,[(1,.ptr 30000 0),(76,.sl 11 (rowsOf encT39 x76)),(77,.p (.int .i64 x77)),(78,.p (.int .i64 x78))],[(30000,.box 26 [.p (.int .i64 h0_),.p (.int .u32 h0__1),.sl 4 (rowsOf encT65 h0__2),.sl 11 (rowsOf encT39 h0__3)])]⟩ : St) = some r.st := by
 unfold f19_aiirrz_l4_b at hF
 simp (maxSteps:=999999) (disch:=first|exact D (by decide)|exact K (by kernel_rfl)) only [E,EE,↓reduceIte,simprocAttr,xk B19 [1,2,2,1,2,2,2] .sq rfl,rg B19 [1,1,2,2,1,2,2,2] 10 false rfl,hr_19_10,xk B19 [2,1,2,2,1,2,2,2] .sq rfl,xk B19 [1,2,1,2,2,1,2,2,2] (.cd 79) rfl]
 rcases cond_some hF with ⟨h1,hF⟩ | ⟨h1,hF⟩
 ·have hJ := f19_aiirrz_l4_j1_ok k x76 x77 x78 true h0_ h0__1 h0__2 h0__3 _ hF
  simp (maxSteps:=999999) (disch:=first|exact D (by decide)|exact K (by kernel_rfl)) only [E,EE,↓reduceIte,simprocAttr,xk B19 [2,1,2,1,2,2,1,2,2,2] .sk rfl,h1]
  try simp only [NM,EE] at hJ
  exact hJ
 ·cases hF
  simp (maxSteps:=999999) (disch:=first|exact D (by decide)|exact K (by kernel_rfl)) only [E,EE,↓reduceIte,simprocAttr,xk B19 [3,1,2,1,2,2,1,2,2,2] (.ex 2) rfl,R19_aiirrz_l4.st,h1]
noncomputable def f19_aiirrz_l4 (k:Nat) : Nat → (List T39) → Int → Int → Int → Int → (List T65) → (List T39) → Option R19_aiirrz_l4
 | 0,_,_,_,_,_,_,_ => none
 | n + 1,x76,x77,x78,h0_,h0__1,h0__2,h0__3 => Option.bind (f19_aiirrz_l4_b k x76 x77 x78 h0_ h0__1 h0__2 h0__3) fun o =>
  match o with
  | .o0 y => some (.o0 y)
  | .o1 y y_1 y_2 y_3 y_4 y_5 y_6 => f19_aiirrz_l4 k n y y_1 y_2 y_3 y_4 y_5 y_6
  | .o2 y y_1 y_2 y_3 y_4 y_5 y_6 y_7 => some (.o2 y y_1 y_2 y_3 y_4 y_5 y_6 y_7)
theorem f19_aiirrz_l4_ok (k n:Nat) : ∀ (x76:List T39) (x77 x78 h0_ h0__1:Int) (h0__2:List T65) (h0__3:List T39) (r:R19_aiirrz_l4) (hF:f19_aiirrz_l4 k n x76 x77 x78 h0_ h0__1 h0__2 h0__3 = some r) (σ:St) (hσ:headR (hints.head 19 10) (hints.canon 19 10) σ = some (⟨112,[(1,.ptr 30000 0),(76,.sl 11 (rowsOf encT39 x76)),(77,.p (.int .i64 x77)),(78,.p (.int .i64 x78))],[(30000,.box 26 [.p (.int .i64 h0_),.p (.int .u32 h0__1),.sl 4 (rowsOf encT65 h0__2),.sl 11 (rowsOf encT39 h0__3)])]⟩ : St)),LP 19 k (nav B19 [1,2,2,1,2,2,2]) n σ = some r.st := by
 induction n with
 | zero => intro x76 x77 x78 h0_ h0__1 h0__2 h0__3 r hF; cases hF
 | succ n ih =>
  intro x76 x77 x78 h0_ h0__1 h0__2 h0__3 r hF σ hσ
  rw [f19_aiirrz_l4] at hF
  obtain ⟨o,h,hF⟩ := Option.bind_eq_some_iff.1 hF
  have hB := f19_aiirrz_l4_b_ok k x76 x77 x78 h0_ h0__1 h0__2 h0__3 o h
  unfold LP at ih ⊢
  unfold EX at hB
  rw [loopK_succ,show firstReg (nav B19 [1,2,2,1,2,2,2]) = 10 from rfl,hσ,headK_some,hB]
  cases o with
  | o0 y => cases hF; rfl
  | o1 y y_1 y_2 y_3 y_4 y_5 y_6 =>
   refine ih y y_1 y_2 y_3 y_4 y_5 y_6 r hF _ ?_
   simp (maxSteps:=999999) (disch:=first|exact D (by decide)|exact K (by kernel_rfl)) only [E,EE,↓reduceIte,simprocAttr,hh_19_10,hc_19_10]
  | o2 y y_1 y_2 y_3 y_4 y_5 y_6 y_7 => cases hF; rfl
noncomputable def f19_aiirrz_j5 (k:Nat) (x76:List T39) (x77 x78:Int) (x79:Bool) (h0_ h0__1:Int) (h0__2:List T65) (h0__3:List T39) : Option R19_aiirrz :=
 some (R19_aiirrz.o0 0)
theorem f19_aiirrz_j5_ok (k:Nat) (x76:List T39) (x77 x78:Int) (x79:Bool) (h0_ h0__1:Int) (h0__2:List T65) (h0__3:List T39) (r:R19_aiirrz) (hF:f19_aiirrz_j5 k x76 x77 x78 x79 h0_ h0__1 h0__2 h0__3 = some r) : finK Try.prog Try.f19 0 (EX 19 k (nav B19 [2,2,2,2]) (⟨112,[(1,.ptr 30000 0),(76,.sl 11 (rowsOf encT39 x76)),(77,.p (.int .i64 x77)),(78,.p (.int .i64 x78)),(79,.p (.bool x79))],[(30000,.box 26 [.p (.int .i64 h0_),.p (.int .u32 h0__1),.sl 4 (rowsOf encT65 h0__2),.sl 11 (rowsOf encT39 h0__3)])]⟩ : St)) = some r.st := by
 unfold f19_aiirrz_j5 at hF
 cases hF
 simp (maxSteps:=999999) (disch:=first|exact D (by decide)|exact K (by kernel_rfl)) only [E,EE,↓reduceIte,simprocAttr,xk B19 [2,2,2,2] .sq rfl,rg B19 [1,2,2,2,2] 18 false rfl,hr_19_18,xk B19 [2,2,2,2,2] .rt rfl,finK_norm,finK_ret,fin19,R19_aiirrz.st]
noncomputable def f19_aiirrz_j3 (k:Nat) (x31:List T65) (x32 x33:Int) (x34:Bool) (h0_ h0__1:Int) (h0__2:List T65) (h0__3:List T39) : Option R19_aiirrz :=
 Option.bind (f19_aiirrz_l4 k k h0__3 ((List.length h0__3) : Int) 0 h0_ h0__1 h0__2 h0__3) fun o1 =>
  match o1 with
  | .o0 v4 =>
   some (R19_aiirrz.o0 v4)
  | .o1 _ _ _ _ _ _ _ =>
   none
  | .o2 v5 v6 v7 v8 v9 v10 v11 v12 =>
   f19_aiirrz_j5 k v5 v6 v7 v8 v9 v10 v11 v12
theorem f19_aiirrz_j3_ok (k:Nat) (x31:List T65) (x32 x33:Int) (x34:Bool) (h0_ h0__1:Int) (h0__2:List T65) (h0__3:List T39) (r:R19_aiirrz) (hF:f19_aiirrz_j3 k x31 x32 x33 x34 h0_ h0__1 h0__2 h0__3 = some r) : finK Try.prog Try.f19 0 (EX 19 k (nav B19 [2,2,2]) (⟨112,[(1,.ptr 30000 0),(31,.sl 4 (rowsOf encT65 x31)),(32,.p (.int .i64 x32)),(33,.p (.int .i64 x33)),(34,.p (.bool x34))],[(30000,.box 26 [.p (.int .i64 h0_),.p (.int .u32 h0__1),.sl 4 (rowsOf encT65 h0__2),.sl 11 (rowsOf encT39 h0__3)])]⟩ : St)) = some r.st := by
 unfold f19_aiirrz_j3 at hF
 obtain ⟨o1,h2,hF⟩ := bs hF
 have hc3 := f19_aiirrz_l4_ok k k h0__3 ((List.length h0__3) : Int) 0 h0_ h0__1 h0__2 h0__3 _ h2
 simp (maxSteps:=999999) (disch:=first|exact D (by decide)|exact K (by kernel_rfl)) only [E,EE,↓reduceIte,simprocAttr,xk B19 [2,2,2] .sq rfl,xk B19 [1,2,2,2] .sq rfl,rg B19 [1,1,2,2,2] 9 false rfl,hr_19_9,fieldAddrV,t_26,t_24,xk B19 [2,1,2,2,2] (.bk 2) rfl,xk B19 [2,2,1,2,2,2] .lp rfl,hh_19_10,hc_19_10]
 (try simp only [NM,EE] at hc3)
 rw [hc3 _ (by simp (maxSteps:=999999) (disch:=first|exact D (by decide)|exact K (by kernel_rfl)) only [E,EE,↓reduceIte,simprocAttr,hh_19_10,hc_19_10])]
 clear hc3
 cases o1 with
 | o0 v4 =>
  (try dsimp only at hF)
  cases hF
  simp (maxSteps:=999999) (disch:=first|exact D (by decide)|exact K (by kernel_rfl)) only [E,EE,↓reduceIte,simprocAttr,R19_aiirrz_l4.st,finK_norm,finK_ret,fin19,R19_aiirrz.st]
 | o1 _ _ _ _ _ _ _ =>
  (try dsimp only at hF)
  cases hF
 | o2 v5 v6 v7 v8 v9 v10 v11 v12 =>
  (try dsimp only at hF)
  have hJ := f19_aiirrz_j5_ok k v5 v6 v7 v8 v9 v10 v11 v12 _ hF
  simp (maxSteps:=999999) (disch:=first|exact D (by decide)|exact K (by kernel_rfl)) only [E,EE,↓reduceIte,simprocAttr,R19_aiirrz_l4.st]
  try simp only [NM,EE] at hJ
  exact hJ
noncomputable def f19_aiirrz_j1 (k:Nat) (x29:Bool) (m1 m1_1:Int) (m1_2:List T65) (m1_3:List T39) : Option R19_aiirrz :=
 Option.bind (f19_aiirrz_l2 k k m1_2 ((List.length m1_2) : Int) 0 m1 m1_1 m1_2 m1_3) fun o1 =>
  match o1 with
  | .o0 v4 =>
   some (R19_aiirrz.o0 v4)
  | .o1 _ _ _ _ _ _ _ =>
   none
  | .o2 v5 v6 v7 v8 v9 v10 v11 v12 =>
   f19_aiirrz_j3 k v5 v6 v7 v8 v9 v10 v11 v12
theorem f19_aiirrz_j1_ok (k:Nat) (x29:Bool) (m1 m1_1:Int) (m1_2:List T65) (m1_3:List T39) (r:R19_aiirrz) (hF:f19_aiirrz_j1 k x29 m1 m1_1 m1_2 m1_3 = some r) : finK Try.prog Try.f19 0 (EX 19 k (nav B19 [2,2]) (⟨112,[(1,.ptr 1 0),(29,.p (.bool x29))],[(1,.box 26 [.p (.int .i64 m1),.p (.int .u32 m1_1),.sl 4 (rowsOf encT65 m1_2),.sl 11 (rowsOf encT39 m1_3)])]⟩ : St)) = some r.st := by
 unfold f19_aiirrz_j1 at hF
 obtain ⟨o1,h2,hF⟩ := bs hF
 have hc3 := f19_aiirrz_l2_ok k k m1_2 ((List.length m1_2) : Int) 0 m1 m1_1 m1_2 m1_3 _ h2
 simp (maxSteps:=999999) (disch:=first|exact D (by decide)|exact K (by kernel_rfl)) only [E,EE,↓reduceIte,simprocAttr,xk B19 [2,2] .sq rfl,xk B19 [1,2,2] .sq rfl,rg B19 [1,1,2,2] 3 false rfl,hr_19_3,fieldAddrV,t_26,t_23,xk B19 [2,1,2,2] (.bk 0) rfl,xk B19 [2,2,1,2,2] .lp rfl,hh_19_4,hc_19_4]
 (try simp only [NM,EE] at hc3)
 rw [hc3 _ (by simp (maxSteps:=999999) (disch:=first|exact D (by decide)|exact K (by kernel_rfl)) only [E,EE,↓reduceIte,simprocAttr,hh_19_4,hc_19_4])]
 clear hc3
 cases o1 with
 | o0 v4 =>
  (try dsimp only at hF)
  cases hF
  simp (maxSteps:=999999) (disch:=first|exact D (by decide)|exact K (by kernel_rfl)) only [E,EE,↓reduceIte,simprocAttr,R19_aiirrz_l2.st,finK_norm,finK_ret,fin19,R19_aiirrz.st]
 | o1 _ _ _ _ _ _ _ =>
  (try dsimp only at hF)
  cases hF
 | o2 v5 v6 v7 v8 v9 v10 v11 v12 =>
  (try dsimp only at hF)
  have hJ := f19_aiirrz_j3_ok k v5 v6 v7 v8 v9 v10 v11 v12 _ hF
  simp (maxSteps:=999999) (disch:=first|exact D (by decide)|exact K (by kernel_rfl)) only [E,EE,↓reduceIte,simprocAttr,R19_aiirrz_l2.st]
  try simp only [NM,EE] at hJ
  exact hJ
noncomputable def f19_aiirrz_e (k:Nat) (a0 a0_1:Int) (a0_2:List T65) (a0_3:List T39) : Option R19_aiirrz :=
 Option.bind (f23_iii k a0 1 6) fun o1 =>
  match o1 with
  | .o0 v4 =>
   cond ((!v4))
    (some (R19_aiirrz.o0 290))
    (
     cond ((a0_1 == 0))
      (some (R19_aiirrz.o0 290))
      (
       cond ((decide (((List.length a0_2) : Int) > 64)))
        (some (R19_aiirrz.o0 290))
        (
         cond ((decide (((List.length a0_3) : Int) > 7)))
          (some (R19_aiirrz.o0 290))
          (f19_aiirrz_j1 k false a0 a0_1 a0_2 a0_3))))
theorem f19_aiirrz_e_ok (k:Nat) (a0 a0_1:Int) (a0_2:List T65) (a0_3:List T39) (r:R19_aiirrz) (hF:f19_aiirrz_e k a0 a0_1 a0_2 a0_3 = some r) : finK Try.prog Try.f19 0 (EX 19 k (nav B19 []) (⟨112,[(0,.agg [.p (.int .i64 a0),.p (.int .u32 a0_1),.sl 4 (rowsOf encT65 a0_2),.sl 11 (rowsOf encT39 a0_3)])],[]⟩ : St)) = some r.st := by
 unfold f19_aiirrz_e at hF
 obtain ⟨o1,h2,hF⟩ := bs hF
 have hc3 := f23_iii_ok k a0 1 6 _ h2
 cases o1 with
 | o0 v4 =>
  (try dsimp only at hF)
  (try simp only [NM,EE,R23_iii.st] at hc3)
  simp (maxSteps:=999999) (disch:=first|exact D (by decide)|exact K (by kernel_rfl)) only [E,EE,↓reduceIte,simprocAttr,xk B19 [] .sq rfl,rg B19 [1] 0 false rfl,hr_19_0,xk B19 [2] .sq rfl,xk B19 [1,2] .sq rfl,rg B19 [1,1,2] 1 false rfl,hr_19_1,fieldAddrV,t_26,t_3,callStep,CL,gv,List.contains,hc3]
  rcases cond_some hF with ⟨h5,hF⟩ | ⟨h5,hF⟩
  ·cases hF
   simp (maxSteps:=999999) (disch:=first|exact D (by decide)|exact K (by kernel_rfl)) only [E,EE,↓reduceIte,simprocAttr,xk B19 [2,1,2] (.cd 29) rfl,xk B19 [2,2,1,2] .sq rfl,rg B19 [1,2,2,1,2] 2 false rfl,hr_19_2,xk B19 [2,2,2,1,2] .rt rfl,finK_norm,finK_ret,fin19,R19_aiirrz.st,hc3,h5]
  ·simp (maxSteps:=999999) (disch:=first|exact D (by decide)|exact K (by kernel_rfl)) only [E,EE,↓reduceIte,simprocAttr,fieldAddrV,t_26,t_22,hc3,h5]
   rcases cond_some hF with ⟨h6,hF⟩ | ⟨h6,hF⟩
   ·cases hF
    simp (maxSteps:=999999) (disch:=first|exact D (by decide)|exact K (by kernel_rfl)) only [E,EE,↓reduceIte,simprocAttr,xk B19 [2,1,2] (.cd 29) rfl,xk B19 [2,2,1,2] .sq rfl,rg B19 [1,2,2,1,2] 2 false rfl,hr_19_2,xk B19 [2,2,2,1,2] .rt rfl,finK_norm,finK_ret,fin19,R19_aiirrz.st,hc3,h5,h6]
   ·simp (maxSteps:=999999) (disch:=first|exact D (by decide)|exact K (by kernel_rfl)) only [E,EE,↓reduceIte,simprocAttr,fieldAddrV,t_26,t_23,hc3,h5,h6]
    rcases cond_some hF with ⟨h7,hF⟩ | ⟨h7,hF⟩
    ·cases hF
     simp (maxSteps:=999999) (disch:=first|exact D (by decide)|exact K (by kernel_rfl)) only [E,EE,↓reduceIte,simprocAttr,xk B19 [2,1,2] (.cd 29) rfl,xk B19 [2,2,1,2] .sq rfl,rg B19 [1,2,2,1,2] 2 false rfl,hr_19_2,xk B19 [2,2,2,1,2] .rt rfl,finK_norm,finK_ret,fin19,R19_aiirrz.st,hc3,h5,h6,h7]
    ·simp (maxSteps:=999999) (disch:=first|exact D (by decide)|exact K (by kernel_rfl)) only [E,EE,↓reduceIte,simprocAttr,fieldAddrV,t_26,t_24,xk B19 [2,1,2] (.cd 29) rfl,hc3,h5,h6,h7]
     rcases cond_some hF with ⟨h8,hF⟩ | ⟨h8,hF⟩
     ·cases hF
      simp (maxSteps:=999999) (disch:=first|exact D (by decide)|exact K (by kernel_rfl)) only [E,EE,↓reduceIte,simprocAttr,xk B19 [2,2,1,2] .sq rfl,rg B19 [1,2,2,1,2] 2 false rfl,hr_19_2,xk B19 [2,2,2,1,2] .rt rfl,finK_norm,finK_ret,fin19,R19_aiirrz.st,hc3,h5,h6,h7,h8]
     ·have hJ := f19_aiirrz_j1_ok k false a0 a0_1 a0_2 a0_3 _ hF
      simp (maxSteps:=999999) (disch:=first|exact D (by decide)|exact K (by kernel_rfl)) only [E,EE,↓reduceIte,simprocAttr,xk B19 [3,2,1,2] .sk rfl,hc3,h5,h6,h7,h8]
      try simp only [NM,EE] at hJ
      exact hJ
noncomputable def f19_aiirrz (k:Nat) (a0 a0_1:Int) (a0_2:List T65) (a0_3:List T39) : Option R19_aiirrz := match k with | 0 => none | k + 1 => f19_aiirrz_e k a0 a0_1 a0_2 a0_3
theorem f19_aiirrz_ok (k:Nat) (a0 a0_1:Int) (a0_2:List T65) (a0_3:List T39) (r:R19_aiirrz) (hF:f19_aiirrz k a0 a0_1 a0_2 a0_3 = some r) : CV k 19 [.agg [.p (.int .i64 a0),.p (.int .u32 a0_1),.sl 4 (rowsOf encT65 a0_2),.sl 11 (rowsOf encT39 a0_3)]] [] = some r.st := by
 cases k with
 | zero => cases hF
 | succ k =>
  unfold CV
  rw [ev_call (F := Try.f19) (c := (nav B19 [])) rfl Try.func19 rfl rfl rfl rfl]
  exact f19_aiirrz_e_ok k a0 a0_1 a0_2 a0_3 r hF
-- f48_r: f48 slices.Clone[[]heliograph/api.Seen,heliograph/api.Seen]
inductive R48_r where
 | o0 (y:List T65)
noncomputable def R48_r.st : R48_r → V × List O × List O
 | .o0 y => (.own 2000000,[],[.row true 4 65 (rowsOf encT65 y)])
noncomputable def f48_r (k:Nat) (a0:List T65) : Option R48_r := match k with | 0 => none | _ + 1 => ifE (a0.length * 32 ≤ roomy) (some (.o0 a0))
theorem f48_r_ok (k:Nat) (a0:List T65) (r:R48_r) (hF:f48_r k a0 = some r) : CV k 48 [.sl 4 (rowsOf encT65 a0)] [] = some r.st := by
 cases k with
 | zero => cases hF
 | succ k =>
  obtain ⟨h,hF⟩ := ifE_some.1 hF
  cases hF
  have h' : ((rowsOf encT65 a0)).length * 32 ≤ roomy := by rw [rowsOf_length]; exact h
  unfold CV
  rw [ev_ctx (show ctx 48 = some (cloneS 4 65 32) from rfl) rfl]
  simp only [cloneS,h',and_self,if_true]; rfl
-- f49_r: f49 slices.Clone[[]byte,byte]
inductive R49_r where
 | o0 (y:List Int)
noncomputable def R49_r.st : R49_r → V × List O × List O
 | .o0 y => (.own 2000000,[],[.row true 1 5 (rowsOf (encI .u8) y)])
noncomputable def f49_r (k:Nat) (a0:List Int) : Option R49_r := match k with | 0 => none | _ + 1 => ifE (a0.length * 1 ≤ roomy) (some (.o0 a0))
theorem f49_r_ok (k:Nat) (a0:List Int) (r:R49_r) (hF:f49_r k a0 = some r) : CV k 49 [.sl 1 (rowsOf (encI .u8) a0)] [] = some r.st := by
 cases k with
 | zero => cases hF
 | succ k =>
  obtain ⟨h,hF⟩ := ifE_some.1 hF
  cases hF
  have h' : ((rowsOf (encI .u8) a0)).length * 1 ≤ roomy := by rw [rowsOf_length]; exact h
  unfold CV
  rw [ev_ctx (show ctx 49 = some (cloneS 1 5 1) from rfl) rfl]
  simp only [cloneS,h',and_self,if_true]; rfl
-- f26_aiirrz: f26 heliograph/agent.own
inductive R26_aiirrz where
 | o0 (y y_1:Int) (y_2:List T65) (y_3:List T39)
noncomputable def R26_aiirrz.st : R26_aiirrz → V × List O × List O
 | .o0 y y_1 y_2 y_3 => (.agg [.p (.int .i64 y),.p (.int .u32 y_1),.own 2000000,.own 2000001],[],[.row true 4 65 (rowsOf encT65 y_2),.row true 11 39 (rowsOf encT39 y_3)])
inductive R26_aiirrz_l1 where
 | o0 (y:List T39) (y_1 y_2 y_3 y_4:Int) (y_5:List T65) (y_6:List T39) (y_7 y_8:Int) (y_9:List T65) (y_10:List T39)
 | o1 (y:List T39) (y_1 y_2:Int) (y_3:Bool) (y_4 y_5:Int) (y_6:List T65) (y_7:List T39) (y_8 y_9:Int) (y_10:List T65) (y_11:List T39)
noncomputable def R26_aiirrz_l1.st : R26_aiirrz_l1 → Out × St
 | .o0 y y_1 y_2 y_3 y_4 y_5 y_6 y_7 y_8 y_9 y_10 => (.norm,(⟨31,[(1,.ptr 30000 0),(2,.ptr 30003 0),(13,.sl 11 (rowsOf encT39 y)),(14,.p (.int .i64 y_1)),(15,.p (.int .i64 y_2))],[(30000,.box 26 [.p (.int .i64 y_3),.p (.int .u32 y_4),.own 30001,.own 27]),(30001,.row true 4 65 (rowsOf encT65 y_5)),(27,.row true 11 39 (rowsOf encT39 y_6)),(30003,.box 26 [.p (.int .i64 y_7),.p (.int .u32 y_8),.own 30004,.own 30005]),(30004,.row true 4 65 (rowsOf encT65 y_9)),(30005,.row true 11 39 (rowsOf encT39 y_10))]⟩ : St))
 | .o1 y y_1 y_2 y_3 y_4 y_5 y_6 y_7 y_8 y_9 y_10 y_11 => (.exit 0,(⟨31,[(1,.ptr 30000 0),(2,.ptr 30003 0),(13,.sl 11 (rowsOf encT39 y)),(14,.p (.int .i64 y_1)),(15,.p (.int .i64 y_2)),(16,.p (.bool y_3))],[(30000,.box 26 [.p (.int .i64 y_4),.p (.int .u32 y_5),.own 30001,.own 30002]),(30001,.row true 4 65 (rowsOf encT65 y_6)),(30002,.row true 11 39 (rowsOf encT39 y_7)),(30003,.box 26 [.p (.int .i64 y_8),.p (.int .u32 y_9),.own 30004,.own 30005]),(30004,.row true 4 65 (rowsOf encT65 y_10)),(30005,.row true 11 39 (rowsOf encT39 y_11))]⟩ : St))
noncomputable def f26_aiirrz_l1_j2 (k:Nat) (x13:List T39) (x14 x15 h0_ h0__1:Int) (h1_:List T65) (m27:List T39) (h3_ h3__1:Int) (h4_:List T65) (h5_:List T39) : Option R26_aiirrz_l1 :=
 some (R26_aiirrz_l1.o0 x13 x14 (IntKind.i64.wrap (x15 + (1:Int))) h0_ h0__1 h1_ m27 h3_ h3__1 h4_ h5_)
theorem f26_aiirrz_l1_j2_ok (k:Nat) (x13:List T39) (x14 x15 h0_ h0__1:Int) (h1_:List T65) (m27:List T39) (h3_ h3__1:Int) (h4_:List T65) (h5_:List T39) (r:R26_aiirrz_l1) (hF:f26_aiirrz_l1_j2 k x13 x14 x15 h0_ h0__1 h1_ m27 h3_ h3__1 h4_ h5_ = some r) : EX 26 k (nav B26 [2,2,2,1,2,2,1,2,2,2,2]) (⟨31,[(1,.ptr 30000 0),(2,.ptr 30003 0),(13,.sl 11 (rowsOf encT39 x13)),(14,.p (.int .i64 x14)),(15,.p (.int .i64 x15))],[(30000,.box 26 [.p (.int .i64 h0_),.p (.int .u32 h0__1),.own 30001,.own 27]),(30001,.row true 4 65 (rowsOf encT65 h1_)),(27,.row true 11 39 (rowsOf encT39 m27)),(30003,.box 26 [.p (.int .i64 h3_),.p (.int .u32 h3__1),.own 30004,.own 30005]),(30004,.row true 4 65 (rowsOf encT65 h4_)),(30005,.row true 11 39 (rowsOf encT39 h5_))]⟩ : St) = some r.st := by
 unfold f26_aiirrz_l1_j2 at hF
 cases hF
 simp (maxSteps:=999999) (disch:=first|exact D (by decide)|exact K (by kernel_rfl)) only [E,EE,↓reduceIte,simprocAttr,rg B26 [2,2,2,1,2,2,1,2,2,2,2] 9 false rfl,hr_26_9,R26_aiirrz_l1.st]
noncomputable def f26_aiirrz_l1_j1 (k:Nat) (x13:List T39) (x14 x15:Int) (x16:Bool) (h0_ h0__1:Int) (h1_:List T65) (h2_:List T39) (h3_ h3__1:Int) (h4_:List T65) (h5_:List T39) : Option R26_aiirrz_l1 :=
 ifE ((0:Int) ≤ x15) (
  Option.bind (x13[(Int.toNat x15)]?) fun v2 =>
   Option.bind (f49_r k v2.Payload) fun o4 =>
    match o4 with
    | .o0 v7 =>
     ifE (((List.length h2_) + 1) * 104 ≤ roomy) (
      f26_aiirrz_l1_j2 k x13 x14 x15 h0_ h0__1 h1_ (h2_ ++ ([(T39.mk v2.Source v2.Dest v2.Seq v2.Created v2.Lifetime v2.HopLimit v2.Hops v2.Priority v2.Offset v2.Total v7)] : List T39)) h3_ h3__1 h4_ h5_))
theorem f26_aiirrz_l1_j1_ok (k:Nat) (x13:List T39) (x14 x15:Int) (x16:Bool) (h0_ h0__1:Int) (h1_:List T65) (h2_:List T39) (h3_ h3__1:Int) (h4_:List T65) (h5_:List T39) (r:R26_aiirrz_l1) (hF:f26_aiirrz_l1_j1 k x13 x14 x15 x16 h0_ h0__1 h1_ h2_ h3_ h3__1 h4_ h5_ = some r) : EX 26 k (nav B26 [2,2,1,2,2,1,2,2,2,2]) (⟨31,[(1,.ptr 30000 0),(2,.ptr 30003 0),(13,.sl 11 (rowsOf encT39 x13)),(14,.p (.int .i64 x14)),(15,.p (.int .i64 x15)),(16,.p (.bool x16))],[(30000,.box 26 [.p (.int .i64 h0_),.p (.int .u32 h0__1),.own 30001,.own 30002]),(30001,.row true 4 65 (rowsOf encT65 h1_)),(30002,.row true 11 39 (rowsOf encT39 h2_)),(30003,.box 26 [.p (.int .i64 h3_),.p (.int .u32 h3__1),.own 30004,.own 30005]),(30004,.row true 4 65 (rowsOf encT65 h4_)),(30005,.row true 11 39 (rowsOf encT39 h5_))]⟩ : St) = some r.st := by
 unfold f26_aiirrz_l1_j1 at hF
 obtain ⟨h1,hF⟩ := ifE_some.1 hF
 obtain ⟨v2,h3,hF⟩ := bs hF
 obtain ⟨o4,h5,hF⟩ := bs hF
 have hc6 := f49_r_ok k v2.Payload _ h5
 cases o4 with
 | o0 v7 =>
  (try dsimp only at hF)
  (try simp only [NM,EE,R49_r.st] at hc6)
  have q8 : [[.p (.int .i64 v2.Source),.p (.int .i64 v2.Dest),.p (.int .u32 v2.Seq),.p (.int .i64 v2.Created),.p (.int .i64 v2.Lifetime),.p (.int .i64 v2.HopLimit),.p (.int .i64 v2.Hops),.p (.int .i64 v2.Priority),.p (.int .i64 v2.Offset),.p (.int .i64 v2.Total),.sl 1 (rowsOf (encI .u8) v7)]] = rowsOf encT39 ([(T39.mk v2.Source v2.Dest v2.Seq v2.Created v2.Lifetime v2.HopLimit v2.Hops v2.Priority v2.Offset v2.Total v7)] : List T39) := rfl
  have q9 : List.map (tell [0,0,0,0,0,0,0,0,0,0,1]) (rowsOf encT39 ([(T39.mk v2.Source v2.Dest v2.Seq v2.Created v2.Lifetime v2.HopLimit v2.Hops v2.Priority v2.Offset v2.Total v7)] : List T39)) = rowsOf encT39 ([(T39.mk v2.Source v2.Dest v2.Seq v2.Created v2.Lifetime v2.HopLimit v2.Hops v2.Priority v2.Offset v2.Total v7)] : List T39) := rfl
  obtain ⟨h10,hF⟩ := ifE_some.1 hF
  have hJ := f26_aiirrz_l1_j2_ok k x13 x14 x15 h0_ h0__1 h1_ (h2_ ++ ([(T39.mk v2.Source v2.Dest v2.Seq v2.Created v2.Lifetime v2.HopLimit v2.Hops v2.Priority v2.Offset v2.Total v7)] : List T39)) h3_ h3__1 h4_ h5_ _ hF
  simp (maxSteps:=999999) (disch:=first|exact D (by decide)|exact K (by kernel_rfl)) only [E,EE,↓reduceIte,simprocAttr,xk B26 [2,2,1,2,2,1,2,2,2,2] .sq rfl,xk B26 [1,2,2,1,2,2,1,2,2,2,2] (.bk 1) rfl,xk B26 [2,1,2,2,1,2,2,1,2,2,2,2] .sq rfl,rg B26 [1,2,1,2,2,1,2,2,1,2,2,2,2] 6 false rfl,hr_26_6,indexAddrV,t_24,t_39,encT39_eq,xk B26 [2,2,1,2,2,1,2,2,1,2,2,2,2] .sq rfl,rg B26 [1,2,2,1,2,2,1,2,2,1,2,2,2,2] 7 false rfl,hr_26_7,fieldAddrV,t_29,callStep,CL,gv,List.contains,rg B26 [2,2,2,1,2,2,1,2,2,1,2,2,2,2] 8 false rfl,hr_26_8,t_26,buildSliceV,fillRows,sm_39,appendV,content,h1,h3,hc6,q8,q9,h10]
  try simp only [NM,EE] at hJ
  exact hJ
noncomputable def f26_aiirrz_l1_b (k:Nat) (x13:List T39) (x14 x15 h0_ h0__1:Int) (h1_:List T65) (h2_:List T39) (h3_ h3__1:Int) (h4_:List T65) (h5_:List T39) : Option R26_aiirrz_l1 :=
 cond ((decide (x15 < x14)))
  (f26_aiirrz_l1_j1 k x13 x14 x15 true h0_ h0__1 h1_ h2_ h3_ h3__1 h4_ h5_)
  (some (R26_aiirrz_l1.o1 x13 x14 x15 false h0_ h0__1 h1_ h2_ h3_ h3__1 h4_ h5_))
theorem f26_aiirrz_l1_b_ok (k:Nat) (x13:List T39) (x14 x15 h0_ h0__1:Int) (h1_:List T65) (h2_:List T39) (h3_ h3__1:Int) (h4_:List T65) (h5_:List T39) (r:R26_aiirrz_l1) (hF:f26_aiirrz_l1_b k x13 x14 x15 h0_ h0__1 h1_ h2_ h3_ h3__1 h4_ h5_ = some r) : EX 26 k (nav B26 [1,2,2,1,2,2,2,2]) (⟨31,[(1,.ptr 30000 0),(2,.ptr 30003 0),(13,.sl 11 (rowsOf encT39 x13)),(14,.p (.int .i64 x14)),(15,.p (.int .i64 x15))],[(30000,.box 26 [.p (.int .i64 h0_),.p (.int .u32 h0__1),.own 30001,.own 30002]),(30001,.row true 4 65 (rowsOf encT65 h1_)),(30002,.row true 11 39 (rowsOf encT39 h2_)),(30003,.box 26 [.p (.int .i64 h3_),.p (.int .u32 h3__1),.own 30004,.own 30005]),(30004,.row true 4 65 (rowsOf encT65 h4_)),(30005,.row true 11 39 (rowsOf encT39 h5_))]⟩ : St) = some r.st := by
 unfold f26_aiirrz_l1_b at hF
 simp (maxSteps:=999999) (disch:=first|exact D (by decide)|exact K (by kernel_rfl)) only [E,EE,↓reduceIte,simprocAttr,xk B26 [1,2,2,1,2,2,2,2] .sq rfl,rg B26 [1,1,2,2,1,2,2,2,2] 5 false rfl,hr_26_5,xk B26 [2,1,2,2,1,2,2,2,2] .sq rfl,xk B26 [1,2,1,2,2,1,2,2,2,2] (.cd 16) rfl]
 rcases cond_some hF with ⟨h1,hF⟩ | ⟨h1,hF⟩
 ·have hJ := f26_aiirrz_l1_j1_ok k x13 x14 x15 true h0_ h0__1 h1_ h2_ h3_ h3__1 h4_ h5_ _ hF
  simp (maxSteps:=999999) (disch:=first|exact D (by decide)|exact K (by kernel_rfl)) only [E,EE,↓reduceIte,simprocAttr,xk B26 [2,1,2,1,2,2,1,2,2,2,2] .sk rfl,h1]
  try simp only [NM,EE] at hJ
  exact hJ
 ·cases hF
  simp (maxSteps:=999999) (disch:=first|exact D (by decide)|exact K (by kernel_rfl)) only [E,EE,↓reduceIte,simprocAttr,xk B26 [3,1,2,1,2,2,1,2,2,2,2] (.ex 0) rfl,R26_aiirrz_l1.st,h1]
noncomputable def f26_aiirrz_l1 (k:Nat) : Nat → (List T39) → Int → Int → Int → Int → (List T65) → (List T39) → Int → Int → (List T65) → (List T39) → Option R26_aiirrz_l1
 | 0,_,_,_,_,_,_,_,_,_,_,_ => none
 | n + 1,x13,x14,x15,h0_,h0__1,h1_,h2_,h3_,h3__1,h4_,h5_ => Option.bind (f26_aiirrz_l1_b k x13 x14 x15 h0_ h0__1 h1_ h2_ h3_ h3__1 h4_ h5_) fun o =>
  match o with
  | .o0 y y_1 y_2 y_3 y_4 y_5 y_6 y_7 y_8 y_9 y_10 => f26_aiirrz_l1 k n y y_1 y_2 y_3 y_4 y_5 y_6 y_7 y_8 y_9 y_10
  | .o1 y y_1 y_2 y_3 y_4 y_5 y_6 y_7 y_8 y_9 y_10 y_11 => some (.o1 y y_1 y_2 y_3 y_4 y_5 y_6 y_7 y_8 y_9 y_10 y_11)
theorem f26_aiirrz_l1_ok (k n:Nat) : ∀ (x13:List T39) (x14 x15 h0_ h0__1:Int) (h1_:List T65) (h2_:List T39) (h3_ h3__1:Int) (h4_:List T65) (h5_:List T39) (r:R26_aiirrz_l1) (hF:f26_aiirrz_l1 k n x13 x14 x15 h0_ h0__1 h1_ h2_ h3_ h3__1 h4_ h5_ = some r) (σ:St) (hσ:headR (hints.head 26 5) (hints.canon 26 5) σ = some (⟨31,[(1,.ptr 30000 0),(2,.ptr 30003 0),(13,.sl 11 (rowsOf encT39 x13)),(14,.p (.int .i64 x14)),(15,.p (.int .i64 x15))],[(30000,.box 26 [.p (.int .i64 h0_),.p (.int .u32 h0__1),.own 30001,.own 30002]),(30001,.row true 4 65 (rowsOf encT65 h1_)),(30002,.row true 11 39 (rowsOf encT39 h2_)),(30003,.box 26 [.p (.int .i64 h3_),.p (.int .u32 h3__1),.own 30004,.own 30005]),(30004,.row true 4 65 (rowsOf encT65 h4_)),(30005,.row true 11 39 (rowsOf encT39 h5_))]⟩ : St)),LP 26 k (nav B26 [1,2,2,1,2,2,2,2]) n σ = some r.st := by
 induction n with
 | zero => intro x13 x14 x15 h0_ h0__1 h1_ h2_ h3_ h3__1 h4_ h5_ r hF; cases hF
 | succ n ih =>
  intro x13 x14 x15 h0_ h0__1 h1_ h2_ h3_ h3__1 h4_ h5_ r hF σ hσ
  rw [f26_aiirrz_l1] at hF
  obtain ⟨o,h,hF⟩ := Option.bind_eq_some_iff.1 hF
  have hB := f26_aiirrz_l1_b_ok k x13 x14 x15 h0_ h0__1 h1_ h2_ h3_ h3__1 h4_ h5_ o h
  unfold LP at ih ⊢
  unfold EX at hB
  rw [loopK_succ,show firstReg (nav B26 [1,2,2,1,2,2,2,2]) = 5 from rfl,hσ,headK_some,hB]
  cases o with
  | o0 y y_1 y_2 y_3 y_4 y_5 y_6 y_7 y_8 y_9 y_10 =>
   refine ih y y_1 y_2 y_3 y_4 y_5 y_6 y_7 y_8 y_9 y_10 r hF _ ?_
   simp (maxSteps:=999999) (disch:=first|exact D (by decide)|exact K (by kernel_rfl)) only [E,EE,↓reduceIte,simprocAttr,hh_26_5,hc_26_5]
  | o1 y y_1 y_2 y_3 y_4 y_5 y_6 y_7 y_8 y_9 y_10 y_11 => cases hF; rfl
noncomputable def f26_aiirrz_j2 (k:Nat) (x13:List T39) (x14 x15:Int) (x16:Bool) (h0_ h0__1:Int) (h1_:List T65) (h2_:List T39) (h3_ h3__1:Int) (h4_:List T65) (h5_:List T39) : Option R26_aiirrz :=
 some (R26_aiirrz.o0 h0_ h0__1 h1_ h2_)
theorem f26_aiirrz_j2_ok (k:Nat) (x13:List T39) (x14 x15:Int) (x16:Bool) (h0_ h0__1:Int) (h1_:List T65) (h2_:List T39) (h3_ h3__1:Int) (h4_:List T65) (h5_:List T39) (r:R26_aiirrz) (hF:f26_aiirrz_j2 k x13 x14 x15 x16 h0_ h0__1 h1_ h2_ h3_ h3__1 h4_ h5_ = some r) : finK Try.prog Try.f26 0 (EX 26 k (nav B26 [2,2,2,2,2]) (⟨31,[(1,.ptr 30000 0),(2,.ptr 30003 0),(13,.sl 11 (rowsOf encT39 x13)),(14,.p (.int .i64 x14)),(15,.p (.int .i64 x15)),(16,.p (.bool x16))],[(30000,.box 26 [.p (.int .i64 h0_),.p (.int .u32 h0__1),.own 30001,.own 30002]),(30001,.row true 4 65 (rowsOf encT65 h1_)),(30002,.row true 11 39 (rowsOf encT39 h2_)),(30003,.box 26 [.p (.int .i64 h3_),.p (.int .u32 h3__1),.own 30004,.own 30005]),(30004,.row true 4 65 (rowsOf encT65 h4_)),(30005,.row true 11 39 (rowsOf encT39 h5_))]⟩ : St)) = some r.st := by
 unfold f26_aiirrz_j2 at hF
 cases hF
 simp (maxSteps:=999999) (disch:=first|exact D (by decide)|exact K (by kernel_rfl)) only [E,EE,↓reduceIte,simprocAttr,xk B26 [2,2,2,2,2] .sq rfl,rg B26 [1,2,2,2,2,2] 10 false rfl,hr_26_10,t_26,xk B26 [2,2,2,2,2,2] .rt rfl,finK_norm,finK_ret,fin26,R26_aiirrz.st]
noncomputable def f26_aiirrz_e (k:Nat) (a0 a0_1:Int) (a0_2:List T65) (a0_3:List T39) : Option R26_aiirrz :=
 Option.bind (f48_r k a0_2) fun o1 =>
  match o1 with
  | .o0 v4 =>
   Option.bind (f26_aiirrz_l1 k k a0_3 ((List.length a0_3) : Int) 0 a0 a0_1 v4 [] 0 0 [] []) fun o5 =>
    match o5 with
    | .o0 _ _ _ _ _ _ _ _ _ _ _ =>
     none
    | .o1 v8 v9 v10 v11 v12 v13 v14 v15 v16 v17 v18 v19 =>
     f26_aiirrz_j2 k v8 v9 v10 v11 v12 v13 v14 v15 v16 v17 v18 v19
theorem f26_aiirrz_e_ok (k:Nat) (a0 a0_1:Int) (a0_2:List T65) (a0_3:List T39) (r:R26_aiirrz) (hF:f26_aiirrz_e k a0 a0_1 a0_2 a0_3 = some r) : finK Try.prog Try.f26 0 (EX 26 k (nav B26 []) (⟨31,[(0,.agg [.p (.int .i64 a0),.p (.int .u32 a0_1),.sl 4 (rowsOf encT65 a0_2),.sl 11 (rowsOf encT39 a0_3)])],[]⟩ : St)) = some r.st := by
 unfold f26_aiirrz_e at hF
 obtain ⟨o1,h2,hF⟩ := bs hF
 have hc3 := f48_r_ok k a0_2 _ h2
 cases o1 with
 | o0 v4 =>
  (try dsimp only at hF)
  (try simp only [NM,EE,R48_r.st] at hc3)
  obtain ⟨o5,h6,hF⟩ := bs hF
  have hc7 := f26_aiirrz_l1_ok k k a0_3 ((List.length a0_3) : Int) 0 a0 a0_1 v4 [] 0 0 [] [] _ h6
  simp (maxSteps:=999999) (disch:=first|exact D (by decide)|exact K (by kernel_rfl)) only [E,EE,↓reduceIte,simprocAttr,xk B26 [] .sq rfl,rg B26 [1] 0 false rfl,hr_26_0,t_26,xk B26 [2] .sq rfl,rg B26 [1,2] 1 false rfl,hr_26_1,fieldAddrV,t_23,callStep,CL,gv,List.contains,xk B26 [2,2] .sq rfl,rg B26 [1,2,2] 2 false rfl,hr_26_2,t_24,xk B26 [2,2,2] .sq rfl,rg B26 [1,2,2,2] 3 false rfl,hr_26_3,xk B26 [2,2,2,2] .sq rfl,xk B26 [1,2,2,2,2] .sq rfl,rg B26 [1,1,2,2,2,2] 4 false rfl,hr_26_4,xk B26 [2,1,2,2,2,2] (.bk 0) rfl,xk B26 [2,2,1,2,2,2,2] .lp rfl,hh_26_5,hc_26_5,hc3]
  (try simp only [NM,EE] at hc7)
  rw [hc7 _ (by simp (maxSteps:=999999) (disch:=first|exact D (by decide)|exact K (by kernel_rfl)) only [E,EE,↓reduceIte,simprocAttr,hh_26_5,hc_26_5,hc3])]
  clear hc7
  cases o5 with
  | o0 _ _ _ _ _ _ _ _ _ _ _ =>
   (try dsimp only at hF)
   cases hF
  | o1 v8 v9 v10 v11 v12 v13 v14 v15 v16 v17 v18 v19 =>
   (try dsimp only at hF)
   have hJ := f26_aiirrz_j2_ok k v8 v9 v10 v11 v12 v13 v14 v15 v16 v17 v18 v19 _ hF
   simp (maxSteps:=999999) (disch:=first|exact D (by decide)|exact K (by kernel_rfl)) only [E,EE,↓reduceIte,simprocAttr,R26_aiirrz_l1.st,hc3]
   try simp only [NM,EE] at hJ
   exact hJ
noncomputable def f26_aiirrz (k:Nat) (a0 a0_1:Int) (a0_2:List T65) (a0_3:List T39) : Option R26_aiirrz := match k with | 0 => none | k + 1 => f26_aiirrz_e k a0 a0_1 a0_2 a0_3
theorem f26_aiirrz_ok (k:Nat) (a0 a0_1:Int) (a0_2:List T65) (a0_3:List T39) (r:R26_aiirrz) (hF:f26_aiirrz k a0 a0_1 a0_2 a0_3 = some r) : CV k 26 [.agg [.p (.int .i64 a0),.p (.int .u32 a0_1),.sl 4 (rowsOf encT65 a0_2),.sl 11 (rowsOf encT39 a0_3)]] [] = some r.st := by
 cases k with
 | zero => cases hF
 | succ k =>
  unfold CV
  rw [ev_call (F := Try.f26) (c := (nav B26 [])) rfl Try.func26 rfl rfl rfl rfl]
  exact f26_aiirrz_e_ok k a0 a0_1 a0_2 a0_3 r hF
-- f51_i: f51 heliograph/agent.judge$1
inductive R51_i where
 | o0 (y y_1 y_2 y_3 y_4 y_5 y_6 y_7 y_8 y_9 y_10:Int) (y_11:List Int)
noncomputable def R51_i.st : R51_i → V × List O × List O
 | .o0 y y_1 y_2 y_3 y_4 y_5 y_6 y_7 y_8 y_9 y_10 y_11 => (.agg [.p (.int .i64 y),.p (.int .i64 y_1),.p (.int .i64 y_2),.p (.int .u32 y_3),.p (.int .i64 y_4),.p (.int .i64 y_5),.p (.int .i64 y_6),.p (.int .i64 y_7),.p (.int .i64 y_8),.p (.int .i64 y_9),.p (.int .i64 y_10),.sl 1 (rowsOf (encI .u8) y_11)],[],[])
noncomputable def f51_i_e (k:Nat) (a0:Int) : Option R51_i :=
 some (R51_i.o0 a0 0 0 0 0 0 0 0 0 0 0 [])
theorem f51_i_e_ok (k:Nat) (a0:Int) (r:R51_i) (hF:f51_i_e k a0 = some r) : finK Try.prog Try.f51 0 (EX 51 k (nav B51 []) (⟨5,[(0,.p (.int .i64 a0))],[]⟩ : St)) = some r.st := by
 unfold f51_i_e at hF
 cases hF
 simp (maxSteps:=999999) (disch:=first|exact D (by decide)|exact K (by kernel_rfl)) only [E,EE,↓reduceIte,simprocAttr,xk B51 [] .sq rfl,rg B51 [1] 0 false rfl,hr_51_0,t_48,xk B51 [2] .sq rfl,rg B51 [1,2] 1 false rfl,hr_51_1,bl_48,xk B51 [2,2] .rt rfl,finK_norm,finK_ret,fin51,R51_i.st]
noncomputable def f51_i (k:Nat) (a0:Int) : Option R51_i := match k with | 0 => none | k + 1 => f51_i_e k a0
theorem f51_i_ok (k:Nat) (a0:Int) (r:R51_i) (hF:f51_i k a0 = some r) : CV k 51 [.p (.int .i64 a0)] [] = some r.st := by
 cases k with
 | zero => cases hF
 | succ k =>
  unfold CV
  rw [ev_call (F := Try.f51) (c := (nav B51 [])) rfl Try.func51 rfl rfl rfl rfl]
  exact f51_i_e_ok k a0 r hF
-- f44_ai10rzi: f44 heliograph/bundle.Expired
inductive R44_ai10rzi where
 | o0 (y:Bool)
noncomputable def R44_ai10rzi.st : R44_ai10rzi → V × List O × List O
 | .o0 y => (.p (.bool y),[],[])
noncomputable def f44_ai10rzi_e (k:Nat) (a0 a0_1 a0_2 a0_3 a0_4 a0_5 a0_6 a0_7 a0_8 a0_9:Int) (a0_10:List Int) (a1:Int) : Option R44_ai10rzi :=
 Option.bind (f24_ai10rz k a0 a0_1 a0_2 a0_3 a0_4 a0_5 a0_6 a0_7 a0_8 a0_9 a0_10) fun o1 =>
  match o1 with
  | .o0 v4 =>
   cond ((v4 == 0))
    (some (R44_ai10rzi.o0 (decide (a1 ≥ (IntKind.i64.wrap (a0_3 + a0_4))))))
    (some (R44_ai10rzi.o0 false))
theorem f44_ai10rzi_e_ok (k:Nat) (a0 a0_1 a0_2 a0_3 a0_4 a0_5 a0_6 a0_7 a0_8 a0_9:Int) (a0_10:List Int) (a1:Int) (r:R44_ai10rzi) (hF:f44_ai10rzi_e k a0 a0_1 a0_2 a0_3 a0_4 a0_5 a0_6 a0_7 a0_8 a0_9 a0_10 a1 = some r) : finK Try.prog Try.f44 0 (EX 44 k (nav B44 []) (⟨17,[(0,.agg [.p (.int .i64 a0),.p (.int .i64 a0_1),.p (.int .u32 a0_2),.p (.int .i64 a0_3),.p (.int .i64 a0_4),.p (.int .i64 a0_5),.p (.int .i64 a0_6),.p (.int .i64 a0_7),.p (.int .i64 a0_8),.p (.int .i64 a0_9),.sl 1 (rowsOf (encI .u8) a0_10)]),(1,.p (.int .i64 a1))],[]⟩ : St)) = some r.st := by
 unfold f44_ai10rzi_e at hF
 obtain ⟨o1,h2,hF⟩ := bs hF
 have hc3 := f24_ai10rz_ok k a0 a0_1 a0_2 a0_3 a0_4 a0_5 a0_6 a0_7 a0_8 a0_9 a0_10 _ h2
 cases o1 with
 | o0 v4 =>
  (try dsimp only at hF)
  (try simp only [NM,EE,R24_ai10rz.st] at hc3)
  simp (maxSteps:=999999) (disch:=first|exact D (by decide)|exact K (by kernel_rfl)) only [E,EE,↓reduceIte,simprocAttr,xk B44 [] .sq rfl,rg B44 [1] 0 false rfl,hr_44_0,xk B44 [2] .sq rfl,rg B44 [1,2] 1 false rfl,hr_44_1,t_39,callStep,CL,gv,List.contains,hc3]
  rcases cond_some hF with ⟨h5,hF⟩ | ⟨h5,hF⟩
  ·cases hF
   simp (maxSteps:=999999) (disch:=first|exact D (by decide)|exact K (by kernel_rfl)) only [E,EE,↓reduceIte,simprocAttr,fieldAddrV,t_39,t_3,xk B44 [2,2] .rt rfl,finK_norm,finK_ret,fin44,R44_ai10rzi.st,hc3,h5]
  ·cases hF
   simp (maxSteps:=999999) (disch:=first|exact D (by decide)|exact K (by kernel_rfl)) only [E,EE,↓reduceIte,simprocAttr,xk B44 [2,2] .rt rfl,finK_norm,finK_ret,fin44,R44_ai10rzi.st,hc3,h5]
noncomputable def f44_ai10rzi (k:Nat) (a0 a0_1 a0_2 a0_3 a0_4 a0_5 a0_6 a0_7 a0_8 a0_9:Int) (a0_10:List Int) (a1:Int) : Option R44_ai10rzi := match k with | 0 => none | k + 1 => f44_ai10rzi_e k a0 a0_1 a0_2 a0_3 a0_4 a0_5 a0_6 a0_7 a0_8 a0_9 a0_10 a1
theorem f44_ai10rzi_ok (k:Nat) (a0 a0_1 a0_2 a0_3 a0_4 a0_5 a0_6 a0_7 a0_8 a0_9:Int) (a0_10:List Int) (a1:Int) (r:R44_ai10rzi) (hF:f44_ai10rzi k a0 a0_1 a0_2 a0_3 a0_4 a0_5 a0_6 a0_7 a0_8 a0_9 a0_10 a1 = some r) : CV k 44 [.agg [.p (.int .i64 a0),.p (.int .i64 a0_1),.p (.int .u32 a0_2),.p (.int .i64 a0_3),.p (.int .i64 a0_4),.p (.int .i64 a0_5),.p (.int .i64 a0_6),.p (.int .i64 a0_7),.p (.int .i64 a0_8),.p (.int .i64 a0_9),.sl 1 (rowsOf (encI .u8) a0_10)],.p (.int .i64 a1)] [] = some r.st := by
 cases k with
 | zero => cases hF
 | succ k =>
  unfold CV
  rw [ev_call (F := Try.f44) (c := (nav B44 [])) rfl Try.func44 rfl rfl rfl rfl]
  exact f44_ai10rzi_e_ok k a0 a0_1 a0_2 a0_3 a0_4 a0_5 a0_6 a0_7 a0_8 a0_9 a0_10 a1 r hF
end Go.Proofs.YticggdfaehneeaaV