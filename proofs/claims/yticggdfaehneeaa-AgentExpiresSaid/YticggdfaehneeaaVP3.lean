/- What the program's functions answer: plain functions,and that the interpreter answers what they do. Written by a program of this session,out of the translation. -/
import Derived.Test.YticggdfaehneeaaVP2
namespace Go.Proofs.YticggdfaehneeaaV
open Go
set_option linter.unusedVariables false
set_option linter.unusedSimpArgs false
set_option maxRecDepth 8000
set_option maxHeartbeats 4000000
-- f15_aiirrzaiirrz: f15 heliograph/heliographref19.Same
inductive R15_aiirrzaiirrz where
 | o0 (y:Bool)
noncomputable def R15_aiirrzaiirrz.st : R15_aiirrzaiirrz → V × List O × List O
 | .o0 y => (.p (.bool y),[],[])
inductive R15_aiirrzaiirrz_l2 where
 | o0 (y:Bool)
 | o1 (y y_1 y_2:Int) (y_3:List T65) (y_4:List T39) (y_5 y_6:Int) (y_7:List T65) (y_8:List T39)
 | o2 (y:Int) (y_1:Bool) (y_2 y_3:Int) (y_4:List T65) (y_5:List T39) (y_6 y_7:Int) (y_8:List T65) (y_9:List T39)
noncomputable def R15_aiirrzaiirrz_l2.st : R15_aiirrzaiirrz_l2 → Out × St
 | .o0 y => (.ret,(⟨53,[(4,.p (.bool y))],[]⟩ : St))
 | .o1 y y_1 y_2 y_3 y_4 y_5 y_6 y_7 y_8 => (.norm,(⟨53,[(2,.ptr 30000 0),(3,.ptr 30001 0),(5,.p (.int .i64 y))],[(30000,.box 26 [.p (.int .i64 y_1),.p (.int .u32 y_2),.sl 4 (rowsOf encT65 y_3),.sl 11 (rowsOf encT39 y_4)]),(30001,.box 26 [.p (.int .i64 y_5),.p (.int .u32 y_6),.sl 4 (rowsOf encT65 y_7),.sl 11 (rowsOf encT39 y_8)])]⟩ : St))
 | .o2 y y_1 y_2 y_3 y_4 y_5 y_6 y_7 y_8 y_9 => (.exit 0,(⟨53,[(2,.ptr 30000 0),(3,.ptr 30001 0),(5,.p (.int .i64 y)),(39,.p (.bool y_1))],[(30000,.box 26 [.p (.int .i64 y_2),.p (.int .u32 y_3),.sl 4 (rowsOf encT65 y_4),.sl 11 (rowsOf encT39 y_5)]),(30001,.box 26 [.p (.int .i64 y_6),.p (.int .u32 y_7),.sl 4 (rowsOf encT65 y_8),.sl 11 (rowsOf encT39 y_9)])]⟩ : St))
noncomputable def f15_aiirrzaiirrz_l2_j2 (k:Nat) (x5:Int) (x52:Bool) (h0_ h0__1:Int) (h0__2:List T65) (h0__3:List T39) (h1_ h1__1:Int) (h1__2:List T65) (h1__3:List T39) : Option R15_aiirrzaiirrz_l2 :=
 some (R15_aiirrzaiirrz_l2.o1 (IntKind.i64.wrap (x5 + (1:Int))) h0_ h0__1 h0__2 h0__3 h1_ h1__1 h1__2 h1__3)
theorem f15_aiirrzaiirrz_l2_j2_ok (k:Nat) (x5:Int) (x52:Bool) (h0_ h0__1:Int) (h0__2:List T65) (h0__3:List T39) (h1_ h1__1:Int) (h1__2:List T65) (h1__3:List T39) (r:R15_aiirrzaiirrz_l2) (hF:f15_aiirrzaiirrz_l2_j2 k x5 x52 h0_ h0__1 h0__2 h0__3 h1_ h1__1 h1__2 h1__3 = some r) : EX 15 k (nav B15 [2,2,1,2,2,1,2,2]) (⟨53,[(2,.ptr 30000 0),(3,.ptr 30001 0),(5,.p (.int .i64 x5)),(52,.p (.bool x52))],[(30000,.box 26 [.p (.int .i64 h0_),.p (.int .u32 h0__1),.sl 4 (rowsOf encT65 h0__2),.sl 11 (rowsOf encT39 h0__3)]),(30001,.box 26 [.p (.int .i64 h1_),.p (.int .u32 h1__1),.sl 4 (rowsOf encT65 h1__2),.sl 11 (rowsOf encT39 h1__3)])]⟩ : St) = some r.st := by
 unfold f15_aiirrzaiirrz_l2_j2 at hF
 cases hF
 simp (maxSteps:=999999) (disch:=first|exact D (by decide)|exact K (by kernel_rfl)) only [E,EE,↓reduceIte,simprocAttr,rg B15 [2,2,1,2,2,1,2,2] 5 false rfl,hr_15_5,R15_aiirrzaiirrz_l2.st]
noncomputable def f15_aiirrzaiirrz_l2_j1 (k:Nat) (x5:Int) (x39:Bool) (h0_ h0__1:Int) (h0__2:List T65) (h0__3:List T39) (h1_ h1__1:Int) (h1__2:List T65) (h1__3:List T39) : Option R15_aiirrzaiirrz_l2 :=
 ifE ((0:Int) ≤ x5) (
  Option.bind (h0__2[(Int.toNat x5)]?) fun v2 =>
   Option.bind (h1__2[(Int.toNat x5)]?) fun v4 =>
    cond ((!(((v2.Key_Source == v4.Key_Source) && ((v2.Key_Seq == v4.Key_Seq) && (v2.Key_Offset == v4.Key_Offset))) && (v2.N == v4.N))))
     (some (R15_aiirrzaiirrz_l2.o0 false))
     (f15_aiirrzaiirrz_l2_j2 k x5 false h0_ h0__1 h0__2 h0__3 h1_ h1__1 h1__2 h1__3))
theorem f15_aiirrzaiirrz_l2_j1_ok (k:Nat) (x5:Int) (x39:Bool) (h0_ h0__1:Int) (h0__2:List T65) (h0__3:List T39) (h1_ h1__1:Int) (h1__2:List T65) (h1__3:List T39) (r:R15_aiirrzaiirrz_l2) (hF:f15_aiirrzaiirrz_l2_j1 k x5 x39 h0_ h0__1 h0__2 h0__3 h1_ h1__1 h1__2 h1__3 = some r) : EX 15 k (nav B15 [2,1,2,2,1,2,2]) (⟨53,[(2,.ptr 30000 0),(3,.ptr 30001 0),(5,.p (.int .i64 x5)),(39,.p (.bool x39))],[(30000,.box 26 [.p (.int .i64 h0_),.p (.int .u32 h0__1),.sl 4 (rowsOf encT65 h0__2),.sl 11 (rowsOf encT39 h0__3)]),(30001,.box 26 [.p (.int .i64 h1_),.p (.int .u32 h1__1),.sl 4 (rowsOf encT65 h1__2),.sl 11 (rowsOf encT39 h1__3)])]⟩ : St) = some r.st := by
 unfold f15_aiirrzaiirrz_l2_j1 at hF
 obtain ⟨h1,hF⟩ := ifE_some.1 hF
 obtain ⟨v2,h3,hF⟩ := bs hF
 obtain ⟨v4,h5,hF⟩ := bs hF
 simp (maxSteps:=999999) (disch:=first|exact D (by decide)|exact K (by kernel_rfl)) only [E,EE,↓reduceIte,simprocAttr,xk B15 [2,1,2,2,1,2,2] .sq rfl,xk B15 [1,2,1,2,2,1,2,2] (.bk 1) rfl,xk B15 [2,1,2,1,2,2,1,2,2] .sq rfl,rg B15 [1,2,1,2,1,2,2,1,2,2] 6 true rfl,hr_15_6,fieldAddrV,t_26,t_23,indexAddrV,t_65,encT65_eq,ag_65,ag_63,t_63,t_3,t_22,xk B15 [2,2,1,2,1,2,2,1,2,2] (.cd 52) rfl,h1,h3,h5]
 rcases cond_some hF with ⟨h6,hF⟩ | ⟨h6,hF⟩
 ·cases hF
  simp (maxSteps:=999999) (disch:=first|exact D (by decide)|exact K (by kernel_rfl)) only [E,EE,↓reduceIte,simprocAttr,xk B15 [2,2,2,1,2,1,2,2,1,2,2] .sq rfl,rg B15 [1,2,2,2,1,2,1,2,2,1,2,2] 7 false rfl,hr_15_7,xk B15 [2,2,2,2,1,2,1,2,2,1,2,2] .rt rfl,R15_aiirrzaiirrz_l2.st,h1,h3,h5,h6]
 ·have hJ := f15_aiirrzaiirrz_l2_j2_ok k x5 false h0_ h0__1 h0__2 h0__3 h1_ h1__1 h1__2 h1__3 _ hF
  simp (maxSteps:=999999) (disch:=first|exact D (by decide)|exact K (by kernel_rfl)) only [E,EE,↓reduceIte,simprocAttr,xk B15 [3,2,2,1,2,1,2,2,1,2,2] .sk rfl,h1,h3,h5,h6]
  try simp only [NM,EE] at hJ
  exact hJ
noncomputable def f15_aiirrzaiirrz_l2_b (k:Nat) (x5 h0_ h0__1:Int) (h0__2:List T65) (h0__3:List T39) (h1_ h1__1:Int) (h1__2:List T65) (h1__3:List T39) : Option R15_aiirrzaiirrz_l2 :=
 cond ((decide (x5 < ((List.length h0__2) : Int))))
  (f15_aiirrzaiirrz_l2_j1 k x5 true h0_ h0__1 h0__2 h0__3 h1_ h1__1 h1__2 h1__3)
  (some (R15_aiirrzaiirrz_l2.o2 x5 false h0_ h0__1 h0__2 h0__3 h1_ h1__1 h1__2 h1__3))
theorem f15_aiirrzaiirrz_l2_b_ok (k:Nat) (x5 h0_ h0__1:Int) (h0__2:List T65) (h0__3:List T39) (h1_ h1__1:Int) (h1__2:List T65) (h1__3:List T39) (r:R15_aiirrzaiirrz_l2) (hF:f15_aiirrzaiirrz_l2_b k x5 h0_ h0__1 h0__2 h0__3 h1_ h1__1 h1__2 h1__3 = some r) : EX 15 k (nav B15 [1,2,2,1,2,2]) (⟨53,[(2,.ptr 30000 0),(3,.ptr 30001 0),(5,.p (.int .i64 x5))],[(30000,.box 26 [.p (.int .i64 h0_),.p (.int .u32 h0__1),.sl 4 (rowsOf encT65 h0__2),.sl 11 (rowsOf encT39 h0__3)]),(30001,.box 26 [.p (.int .i64 h1_),.p (.int .u32 h1__1),.sl 4 (rowsOf encT65 h1__2),.sl 11 (rowsOf encT39 h1__3)])]⟩ : St) = some r.st := by
 unfold f15_aiirrzaiirrz_l2_b at hF
 simp (maxSteps:=999999) (disch:=first|exact D (by decide)|exact K (by kernel_rfl)) only [E,EE,↓reduceIte,simprocAttr,xk B15 [1,2,2,1,2,2] .sq rfl,xk B15 [1,1,2,2,1,2,2] .sq rfl,rg B15 [1,1,1,2,2,1,2,2] 4 false rfl,hr_15_4,fieldAddrV,t_26,t_23,xk B15 [2,1,1,2,2,1,2,2] (.cd 39) rfl]
 rcases cond_some hF with ⟨h1,hF⟩ | ⟨h1,hF⟩
 ·have hJ := f15_aiirrzaiirrz_l2_j1_ok k x5 true h0_ h0__1 h0__2 h0__3 h1_ h1__1 h1__2 h1__3 _ hF
  simp (maxSteps:=999999) (disch:=first|exact D (by decide)|exact K (by kernel_rfl)) only [E,EE,↓reduceIte,simprocAttr,xk B15 [2,2,1,1,2,2,1,2,2] .sk rfl,h1]
  try simp only [NM,EE] at hJ
  exact hJ
 ·cases hF
  simp (maxSteps:=999999) (disch:=first|exact D (by decide)|exact K (by kernel_rfl)) only [E,EE,↓reduceIte,simprocAttr,xk B15 [3,2,1,1,2,2,1,2,2] (.ex 0) rfl,R15_aiirrzaiirrz_l2.st,h1]
noncomputable def f15_aiirrzaiirrz_l2 (k:Nat) : Nat → Int → Int → Int → (List T65) → (List T39) → Int → Int → (List T65) → (List T39) → Option R15_aiirrzaiirrz_l2
 | 0,_,_,_,_,_,_,_,_,_ => none
 | n + 1,x5,h0_,h0__1,h0__2,h0__3,h1_,h1__1,h1__2,h1__3 => Option.bind (f15_aiirrzaiirrz_l2_b k x5 h0_ h0__1 h0__2 h0__3 h1_ h1__1 h1__2 h1__3) fun o =>
  match o with
  | .o0 y => some (.o0 y)
  | .o1 y y_1 y_2 y_3 y_4 y_5 y_6 y_7 y_8 => f15_aiirrzaiirrz_l2 k n y y_1 y_2 y_3 y_4 y_5 y_6 y_7 y_8
  | .o2 y y_1 y_2 y_3 y_4 y_5 y_6 y_7 y_8 y_9 => some (.o2 y y_1 y_2 y_3 y_4 y_5 y_6 y_7 y_8 y_9)
theorem f15_aiirrzaiirrz_l2_ok (k n:Nat) : ∀ (x5 h0_ h0__1:Int) (h0__2:List T65) (h0__3:List T39) (h1_ h1__1:Int) (h1__2:List T65) (h1__3:List T39) (r:R15_aiirrzaiirrz_l2) (hF:f15_aiirrzaiirrz_l2 k n x5 h0_ h0__1 h0__2 h0__3 h1_ h1__1 h1__2 h1__3 = some r) (σ:St) (hσ:headR (hints.head 15 4) (hints.canon 15 4) σ = some (⟨53,[(2,.ptr 30000 0),(3,.ptr 30001 0),(5,.p (.int .i64 x5))],[(30000,.box 26 [.p (.int .i64 h0_),.p (.int .u32 h0__1),.sl 4 (rowsOf encT65 h0__2),.sl 11 (rowsOf encT39 h0__3)]),(30001,.box 26 [.p (.int .i64 h1_),.p (.int .u32 h1__1),.sl 4 (rowsOf encT65 h1__2),.sl 11 (rowsOf encT39 h1__3)])]⟩ : St)),LP 15 k (nav B15 [1,2,2,1,2,2]) n σ = some r.st := by
 induction n with
 | zero => intro x5 h0_ h0__1 h0__2 h0__3 h1_ h1__1 h1__2 h1__3 r hF; cases hF
 | succ n ih =>
  intro x5 h0_ h0__1 h0__2 h0__3 h1_ h1__1 h1__2 h1__3 r hF σ hσ
  rw [f15_aiirrzaiirrz_l2] at hF
  obtain ⟨o,h,hF⟩ := Option.bind_eq_some_iff.1 hF
  have hB := f15_aiirrzaiirrz_l2_b_ok k x5 h0_ h0__1 h0__2 h0__3 h1_ h1__1 h1__2 h1__3 o h
  unfold LP at ih ⊢
  unfold EX at hB
  rw [loopK_succ,show firstReg (nav B15 [1,2,2,1,2,2]) = 4 from rfl,hσ,headK_some,hB]
  cases o with
  | o0 y => cases hF; rfl
  | o1 y y_1 y_2 y_3 y_4 y_5 y_6 y_7 y_8 =>
   refine ih y y_1 y_2 y_3 y_4 y_5 y_6 y_7 y_8 r hF _ ?_
   simp (maxSteps:=999999) (disch:=first|exact D (by decide)|exact K (by kernel_rfl)) only [E,EE,↓reduceIte,simprocAttr,hh_15_4,hc_15_4]
  | o2 y y_1 y_2 y_3 y_4 y_5 y_6 y_7 y_8 y_9 => cases hF; rfl
noncomputable def f15_aiirrzaiirrz_j3 (k:Nat) (x5:Int) (x39:Bool) (h0_ h0__1:Int) (h0__2:List T65) (h0__3:List T39) (h1_ h1__1:Int) (h1__2:List T65) (h1__3:List T39) : Option R15_aiirrzaiirrz :=
 some (R15_aiirrzaiirrz.o0 true)
theorem f15_aiirrzaiirrz_j3_ok (k:Nat) (x5:Int) (x39:Bool) (h0_ h0__1:Int) (h0__2:List T65) (h0__3:List T39) (h1_ h1__1:Int) (h1__2:List T65) (h1__3:List T39) (r:R15_aiirrzaiirrz) (hF:f15_aiirrzaiirrz_j3 k x5 x39 h0_ h0__1 h0__2 h0__3 h1_ h1__1 h1__2 h1__3 = some r) : finK Try.prog Try.f15 0 (EX 15 k (nav B15 [2,2,2]) (⟨53,[(2,.ptr 30000 0),(3,.ptr 30001 0),(5,.p (.int .i64 x5)),(39,.p (.bool x39))],[(30000,.box 26 [.p (.int .i64 h0_),.p (.int .u32 h0__1),.sl 4 (rowsOf encT65 h0__2),.sl 11 (rowsOf encT39 h0__3)]),(30001,.box 26 [.p (.int .i64 h1_),.p (.int .u32 h1__1),.sl 4 (rowsOf encT65 h1__2),.sl 11 (rowsOf encT39 h1__3)])]⟩ : St)) = some r.st := by
 unfold f15_aiirrzaiirrz_j3 at hF
 cases hF
 simp (maxSteps:=999999) (disch:=first|exact D (by decide)|exact K (by kernel_rfl)) only [E,EE,↓reduceIte,simprocAttr,xk B15 [2,2,2] .sq rfl,rg B15 [1,2,2,2] 8 false rfl,hr_15_8,xk B15 [2,2,2,2] .rt rfl,finK_norm,finK_ret,fin15,R15_aiirrzaiirrz.st]
noncomputable def f15_aiirrzaiirrz_j1 (k:Nat) (x34:Bool) (m2 m2_1:Int) (m2_2:List T65) (m2_3:List T39) (m3 m3_1:Int) (m3_2:List T65) (m3_3:List T39) : Option R15_aiirrzaiirrz :=
 Option.bind (f15_aiirrzaiirrz_l2 k k 0 m2 m2_1 m2_2 m2_3 m3 m3_1 m3_2 m3_3) fun o1 =>
  match o1 with
  | .o0 v4 =>
   some (R15_aiirrzaiirrz.o0 v4)
  | .o1 _ _ _ _ _ _ _ _ _ =>
   none
  | .o2 v5 v6 v7 v8 v9 v10 v11 v12 v13 v14 =>
   f15_aiirrzaiirrz_j3 k v5 v6 v7 v8 v9 v10 v11 v12 v13 v14
theorem f15_aiirrzaiirrz_j1_ok (k:Nat) (x34:Bool) (m2 m2_1:Int) (m2_2:List T65) (m2_3:List T39) (m3 m3_1:Int) (m3_2:List T65) (m3_3:List T39) (r:R15_aiirrzaiirrz) (hF:f15_aiirrzaiirrz_j1 k x34 m2 m2_1 m2_2 m2_3 m3 m3_1 m3_2 m3_3 = some r) : finK Try.prog Try.f15 0 (EX 15 k (nav B15 [2,2]) (⟨53,[(2,.ptr 2 0),(3,.ptr 3 0),(34,.p (.bool x34))],[(2,.box 26 [.p (.int .i64 m2),.p (.int .u32 m2_1),.sl 4 (rowsOf encT65 m2_2),.sl 11 (rowsOf encT39 m2_3)]),(3,.box 26 [.p (.int .i64 m3),.p (.int .u32 m3_1),.sl 4 (rowsOf encT65 m3_2),.sl 11 (rowsOf encT39 m3_3)])]⟩ : St)) = some r.st := by
 unfold f15_aiirrzaiirrz_j1 at hF
 obtain ⟨o1,h2,hF⟩ := bs hF
 have hc3 := f15_aiirrzaiirrz_l2_ok k k 0 m2 m2_1 m2_2 m2_3 m3 m3_1 m3_2 m3_3 _ h2
 simp (maxSteps:=999999) (disch:=first|exact D (by decide)|exact K (by kernel_rfl)) only [E,EE,↓reduceIte,simprocAttr,xk B15 [2,2] .sq rfl,xk B15 [1,2,2] .sq rfl,rg B15 [1,1,2,2] 3 false rfl,hr_15_3,xk B15 [2,1,2,2] (.bk 0) rfl,xk B15 [2,2,1,2,2] .lp rfl,hh_15_4,hc_15_4]
 (try simp only [NM,EE] at hc3)
 rw [hc3 _ (by simp (maxSteps:=999999) (disch:=first|exact D (by decide)|exact K (by kernel_rfl)) only [E,EE,↓reduceIte,simprocAttr,hh_15_4,hc_15_4])]
 clear hc3
 cases o1 with
 | o0 v4 =>
  (try dsimp only at hF)
  cases hF
  simp (maxSteps:=999999) (disch:=first|exact D (by decide)|exact K (by kernel_rfl)) only [E,EE,↓reduceIte,simprocAttr,R15_aiirrzaiirrz_l2.st,finK_norm,finK_ret,fin15,R15_aiirrzaiirrz.st]
 | o1 _ _ _ _ _ _ _ _ _ =>
  (try dsimp only at hF)
  cases hF
 | o2 v5 v6 v7 v8 v9 v10 v11 v12 v13 v14 =>
  (try dsimp only at hF)
  have hJ := f15_aiirrzaiirrz_j3_ok k v5 v6 v7 v8 v9 v10 v11 v12 v13 v14 _ hF
  simp (maxSteps:=999999) (disch:=first|exact D (by decide)|exact K (by kernel_rfl)) only [E,EE,↓reduceIte,simprocAttr,R15_aiirrzaiirrz_l2.st]
  try simp only [NM,EE] at hJ
  exact hJ
noncomputable def f15_aiirrzaiirrz_e (k:Nat) (a0 a0_1:Int) (a0_2:List T65) (a0_3:List T39) (a1 a1_1:Int) (a1_2:List T65) (a1_3:List T39) : Option R15_aiirrzaiirrz :=
 cond ((a0 != a1))
  (some (R15_aiirrzaiirrz.o0 false))
  (
   cond ((a0_1 != a1_1))
    (some (R15_aiirrzaiirrz.o0 false))
    (
     cond ((((List.length a0_2) : Int) != ((List.length a1_2) : Int)))
      (some (R15_aiirrzaiirrz.o0 false))
      (
       Option.bind (f31_rr k a0_3 a1_3) fun o4 =>
        match o4 with
        | .o0 v7 =>
         cond ((!v7))
          (some (R15_aiirrzaiirrz.o0 false))
          (f15_aiirrzaiirrz_j1 k false a0 a0_1 a0_2 a0_3 a1 a1_1 a1_2 a1_3))))
theorem f15_aiirrzaiirrz_e_ok (k:Nat) (a0 a0_1:Int) (a0_2:List T65) (a0_3:List T39) (a1 a1_1:Int) (a1_2:List T65) (a1_3:List T39) (r:R15_aiirrzaiirrz) (hF:f15_aiirrzaiirrz_e k a0 a0_1 a0_2 a0_3 a1 a1_1 a1_2 a1_3 = some r) : finK Try.prog Try.f15 0 (EX 15 k (nav B15 []) (⟨53,[(0,.agg [.p (.int .i64 a0),.p (.int .u32 a0_1),.sl 4 (rowsOf encT65 a0_2),.sl 11 (rowsOf encT39 a0_3)]),(1,.agg [.p (.int .i64 a1),.p (.int .u32 a1_1),.sl 4 (rowsOf encT65 a1_2),.sl 11 (rowsOf encT39 a1_3)])],[]⟩ : St)) = some r.st := by
 unfold f15_aiirrzaiirrz_e at hF
 simp (maxSteps:=999999) (disch:=first|exact D (by decide)|exact K (by kernel_rfl)) only [E,EE,↓reduceIte,simprocAttr,xk B15 [] .sq rfl,rg B15 [1] 0 false rfl,hr_15_0,xk B15 [2] .sq rfl,xk B15 [1,2] .sq rfl,rg B15 [1,1,2] 1 false rfl,hr_15_1,fieldAddrV,t_26,t_3]
 rcases cond_some hF with ⟨h1,hF⟩ | ⟨h1,hF⟩
 ·cases hF
  simp (maxSteps:=999999) (disch:=first|exact D (by decide)|exact K (by kernel_rfl)) only [E,EE,↓reduceIte,simprocAttr,xk B15 [2,1,2] (.cd 34) rfl,xk B15 [2,2,1,2] .sq rfl,rg B15 [1,2,2,1,2] 2 false rfl,hr_15_2,xk B15 [2,2,2,1,2] .rt rfl,finK_norm,finK_ret,fin15,R15_aiirrzaiirrz.st,h1]
 ·simp (maxSteps:=999999) (disch:=first|exact D (by decide)|exact K (by kernel_rfl)) only [E,EE,↓reduceIte,simprocAttr,fieldAddrV,t_26,t_22,h1]
  rcases cond_some hF with ⟨h2,hF⟩ | ⟨h2,hF⟩
  ·cases hF
   simp (maxSteps:=999999) (disch:=first|exact D (by decide)|exact K (by kernel_rfl)) only [E,EE,↓reduceIte,simprocAttr,xk B15 [2,1,2] (.cd 34) rfl,xk B15 [2,2,1,2] .sq rfl,rg B15 [1,2,2,1,2] 2 false rfl,hr_15_2,xk B15 [2,2,2,1,2] .rt rfl,finK_norm,finK_ret,fin15,R15_aiirrzaiirrz.st,h1,h2]
  ·simp (maxSteps:=999999) (disch:=first|exact D (by decide)|exact K (by kernel_rfl)) only [E,EE,↓reduceIte,simprocAttr,fieldAddrV,t_26,t_23,h1,h2]
   rcases cond_some hF with ⟨h3,hF⟩ | ⟨h3,hF⟩
   ·cases hF
    simp (maxSteps:=999999) (disch:=first|exact D (by decide)|exact K (by kernel_rfl)) only [E,EE,↓reduceIte,simprocAttr,xk B15 [2,1,2] (.cd 34) rfl,xk B15 [2,2,1,2] .sq rfl,rg B15 [1,2,2,1,2] 2 false rfl,hr_15_2,xk B15 [2,2,2,1,2] .rt rfl,finK_norm,finK_ret,fin15,R15_aiirrzaiirrz.st,h1,h2,h3]
   ·obtain ⟨o4,h5,hF⟩ := bs hF
    have hc6 := f31_rr_ok k a0_3 a1_3 _ h5
    cases o4 with
    | o0 v7 =>
     (try dsimp only at hF)
     (try simp only [NM,EE,R31_rr.st] at hc6)
     simp (maxSteps:=999999) (disch:=first|exact D (by decide)|exact K (by kernel_rfl)) only [E,EE,↓reduceIte,simprocAttr,fieldAddrV,t_26,t_24,callStep,CL,gv,List.contains,xk B15 [2,1,2] (.cd 34) rfl,h1,h2,h3,hc6]
     rcases cond_some hF with ⟨h8,hF⟩ | ⟨h8,hF⟩
     ·cases hF
      simp (maxSteps:=999999) (disch:=first|exact D (by decide)|exact K (by kernel_rfl)) only [E,EE,↓reduceIte,simprocAttr,xk B15 [2,2,1,2] .sq rfl,rg B15 [1,2,2,1,2] 2 false rfl,hr_15_2,xk B15 [2,2,2,1,2] .rt rfl,finK_norm,finK_ret,fin15,R15_aiirrzaiirrz.st,h1,h2,h3,hc6,h8]
     ·have hJ := f15_aiirrzaiirrz_j1_ok k false a0 a0_1 a0_2 a0_3 a1 a1_1 a1_2 a1_3 _ hF
      simp (maxSteps:=999999) (disch:=first|exact D (by decide)|exact K (by kernel_rfl)) only [E,EE,↓reduceIte,simprocAttr,xk B15 [3,2,1,2] .sk rfl,h1,h2,h3,hc6,h8]
      try simp only [NM,EE] at hJ
      exact hJ
noncomputable def f15_aiirrzaiirrz (k:Nat) (a0 a0_1:Int) (a0_2:List T65) (a0_3:List T39) (a1 a1_1:Int) (a1_2:List T65) (a1_3:List T39) : Option R15_aiirrzaiirrz := match k with | 0 => none | k + 1 => f15_aiirrzaiirrz_e k a0 a0_1 a0_2 a0_3 a1 a1_1 a1_2 a1_3
theorem f15_aiirrzaiirrz_ok (k:Nat) (a0 a0_1:Int) (a0_2:List T65) (a0_3:List T39) (a1 a1_1:Int) (a1_2:List T65) (a1_3:List T39) (r:R15_aiirrzaiirrz) (hF:f15_aiirrzaiirrz k a0 a0_1 a0_2 a0_3 a1 a1_1 a1_2 a1_3 = some r) : CV k 15 [.agg [.p (.int .i64 a0),.p (.int .u32 a0_1),.sl 4 (rowsOf encT65 a0_2),.sl 11 (rowsOf encT39 a0_3)],.agg [.p (.int .i64 a1),.p (.int .u32 a1_1),.sl 4 (rowsOf encT65 a1_2),.sl 11 (rowsOf encT39 a1_3)]] [] = some r.st := by
 cases k with
 | zero => cases hF
 | succ k =>
  unfold CV
  rw [ev_call (F := Try.f15) (c := (nav B15 [])) rfl Try.func15 rfl rfl rfl rfl]
  exact f15_aiirrzaiirrz_e_ok k a0 a0_1 a0_2 a0_3 a1 a1_1 a1_2 a1_3 r hF
-- f10_aiirrz: f10 heliograph/heliographlaw19.copied
inductive R10_aiirrz where
 | o0 (y y_1:Int) (y_2:List T65) (y_3:List T39)
noncomputable def R10_aiirrz.st : R10_aiirrz → V × List O × List O
 | .o0 y y_1 y_2 y_3 => (.agg [.p (.int .i64 y),.p (.int .u32 y_1),.own 2000000,.own 2000001],[],[.row true 4 65 (rowsOf encT65 y_2),.row true 11 39 (rowsOf encT39 y_3)])
inductive R10_aiirrz_l1 where
 | o0 (y:List T39) (y_1 y_2 y_3 y_4:Int) (y_5:List T39) (y_6:List T65) (y_7 y_8:Int) (y_9:List T65) (y_10 y_11:List T39)
 | o1 (y:List T39) (y_1 y_2:Int) (y_3:Bool) (y_4 y_5:Int) (y_6:List T39) (y_7:List T65) (y_8 y_9:Int) (y_10:List T65) (y_11 y_12:List T39)
noncomputable def R10_aiirrz_l1.st : R10_aiirrz_l1 → Out × St
 | .o0 y y_1 y_2 y_3 y_4 y_5 y_6 y_7 y_8 y_9 y_10 y_11 => (.norm,(⟨31,[(1,.ptr 30000 0),(2,.ptr 30002 0),(3,.own 26),(12,.sl 11 (rowsOf encT39 y)),(13,.p (.int .i64 y_1)),(14,.p (.int .i64 y_2))],[(30000,.box 26 [.p (.int .i64 y_3),.p (.int .u32 y_4),.own 30001,.sl 11 (rowsOf encT39 y_5)]),(30001,.row true 4 65 (rowsOf encT65 y_6)),(30002,.box 26 [.p (.int .i64 y_7),.p (.int .u32 y_8),.own 30003,.own 30004]),(30003,.row true 4 65 (rowsOf encT65 y_9)),(30004,.row true 11 39 (rowsOf encT39 y_10)),(26,.row true 11 39 (rowsOf encT39 y_11))]⟩ : St))
 | .o1 y y_1 y_2 y_3 y_4 y_5 y_6 y_7 y_8 y_9 y_10 y_11 y_12 => (.exit 0,(⟨31,[(1,.ptr 30000 0),(2,.ptr 30002 0),(3,.own 30005),(12,.sl 11 (rowsOf encT39 y)),(13,.p (.int .i64 y_1)),(14,.p (.int .i64 y_2)),(15,.p (.bool y_3))],[(30000,.box 26 [.p (.int .i64 y_4),.p (.int .u32 y_5),.own 30001,.sl 11 (rowsOf encT39 y_6)]),(30001,.row true 4 65 (rowsOf encT65 y_7)),(30002,.box 26 [.p (.int .i64 y_8),.p (.int .u32 y_9),.own 30003,.own 30004]),(30003,.row true 4 65 (rowsOf encT65 y_10)),(30004,.row true 11 39 (rowsOf encT39 y_11)),(30005,.row true 11 39 (rowsOf encT39 y_12))]⟩ : St))
noncomputable def f10_aiirrz_l1_j2 (k:Nat) (x12:List T39) (x13 x14 h0_ h0__1:Int) (h0__2:List T39) (h1_:List T65) (h2_ h2__1:Int) (h3_:List T65) (h4_ m26:List T39) : Option R10_aiirrz_l1 :=
 some (R10_aiirrz_l1.o0 x12 x13 (IntKind.i64.wrap (x14 + (1:Int))) h0_ h0__1 h0__2 h1_ h2_ h2__1 h3_ h4_ m26)
theorem f10_aiirrz_l1_j2_ok (k:Nat) (x12:List T39) (x13 x14 h0_ h0__1:Int) (h0__2:List T39) (h1_:List T65) (h2_ h2__1:Int) (h3_:List T65) (h4_ m26:List T39) (r:R10_aiirrz_l1) (hF:f10_aiirrz_l1_j2 k x12 x13 x14 h0_ h0__1 h0__2 h1_ h2_ h2__1 h3_ h4_ m26 = some r) : EX 10 k (nav B10 [2,2,2,1,2,2,1,2,2,2]) (⟨31,[(1,.ptr 30000 0),(2,.ptr 30002 0),(3,.own 26),(12,.sl 11 (rowsOf encT39 x12)),(13,.p (.int .i64 x13)),(14,.p (.int .i64 x14))],[(30000,.box 26 [.p (.int .i64 h0_),.p (.int .u32 h0__1),.own 30001,.sl 11 (rowsOf encT39 h0__2)]),(30001,.row true 4 65 (rowsOf encT65 h1_)),(30002,.box 26 [.p (.int .i64 h2_),.p (.int .u32 h2__1),.own 30003,.own 30004]),(30003,.row true 4 65 (rowsOf encT65 h3_)),(30004,.row true 11 39 (rowsOf encT39 h4_)),(26,.row true 11 39 (rowsOf encT39 m26))]⟩ : St) = some r.st := by
 unfold f10_aiirrz_l1_j2 at hF
 cases hF
 simp (maxSteps:=999999) (disch:=first|exact D (by decide)|exact K (by kernel_rfl)) only [E,EE,↓reduceIte,simprocAttr,rg B10 [2,2,2,1,2,2,1,2,2,2] 8 false rfl,hr_10_8,R10_aiirrz_l1.st]
noncomputable def f10_aiirrz_l1_j1 (k:Nat) (x12:List T39) (x13 x14:Int) (x15:Bool) (h0_ h0__1:Int) (h0__2:List T39) (h1_:List T65) (h2_ h2__1:Int) (h3_:List T65) (h4_ h5_:List T39) : Option R10_aiirrz_l1 :=
 ifE ((0:Int) ≤ x14) (
  Option.bind (x12[(Int.toNat x14)]?) fun v2 =>
   ifE ((List.length v2.Payload) ≤ roomy) (
    ifE (((List.length h5_) + 1) * 104 ≤ roomy) (
     f10_aiirrz_l1_j2 k x12 x13 x14 h0_ h0__1 h0__2 h1_ h2_ h2__1 h3_ h4_ (h5_ ++ ([v2] : List T39)))))
theorem f10_aiirrz_l1_j1_ok (k:Nat) (x12:List T39) (x13 x14:Int) (x15:Bool) (h0_ h0__1:Int) (h0__2:List T39) (h1_:List T65) (h2_ h2__1:Int) (h3_:List T65) (h4_ h5_:List T39) (r:R10_aiirrz_l1) (hF:f10_aiirrz_l1_j1 k x12 x13 x14 x15 h0_ h0__1 h0__2 h1_ h2_ h2__1 h3_ h4_ h5_ = some r) : EX 10 k (nav B10 [2,2,1,2,2,1,2,2,2]) (⟨31,[(1,.ptr 30000 0),(2,.ptr 30002 0),(3,.own 30005),(12,.sl 11 (rowsOf encT39 x12)),(13,.p (.int .i64 x13)),(14,.p (.int .i64 x14)),(15,.p (.bool x15))],[(30000,.box 26 [.p (.int .i64 h0_),.p (.int .u32 h0__1),.own 30001,.sl 11 (rowsOf encT39 h0__2)]),(30001,.row true 4 65 (rowsOf encT65 h1_)),(30002,.box 26 [.p (.int .i64 h2_),.p (.int .u32 h2__1),.own 30003,.own 30004]),(30003,.row true 4 65 (rowsOf encT65 h3_)),(30004,.row true 11 39 (rowsOf encT39 h4_)),(30005,.row true 11 39 (rowsOf encT39 h5_))]⟩ : St) = some r.st := by
 unfold f10_aiirrz_l1_j1 at hF
 obtain ⟨h1,hF⟩ := ifE_some.1 hF
 obtain ⟨v2,h3,hF⟩ := bs hF
 obtain ⟨h4,hF⟩ := ifE_some.1 hF
 have q5 : [[.p (.int .i64 v2.Source),.p (.int .i64 v2.Dest),.p (.int .u32 v2.Seq),.p (.int .i64 v2.Created),.p (.int .i64 v2.Lifetime),.p (.int .i64 v2.HopLimit),.p (.int .i64 v2.Hops),.p (.int .i64 v2.Priority),.p (.int .i64 v2.Offset),.p (.int .i64 v2.Total),.sl 1 (rowsOf (encI .u8) v2.Payload)]] = rowsOf encT39 ([v2] : List T39) := rfl
 have q6 : List.map (tell [0,0,0,0,0,0,0,0,0,0,1]) (rowsOf encT39 ([v2] : List T39)) = rowsOf encT39 ([v2] : List T39) := rfl
 obtain ⟨h7,hF⟩ := ifE_some.1 hF
 have hJ := f10_aiirrz_l1_j2_ok k x12 x13 x14 h0_ h0__1 h0__2 h1_ h2_ h2__1 h3_ h4_ (h5_ ++ ([v2] : List T39)) _ hF
 simp (maxSteps:=999999) (disch:=first|exact D (by decide)|exact K (by kernel_rfl)) only [E,EE,↓reduceIte,simprocAttr,xk B10 [2,2,1,2,2,1,2,2,2] .sq rfl,xk B10 [1,2,2,1,2,2,1,2,2,2] (.bk 1) rfl,xk B10 [2,1,2,2,1,2,2,1,2,2,2] .sq rfl,rg B10 [1,2,1,2,2,1,2,2,1,2,2,2] 5 false rfl,hr_10_5,indexAddrV,t_24,t_39,encT39_eq,xk B10 [2,2,1,2,2,1,2,2,1,2,2,2] .sq rfl,rg B10 [1,2,2,1,2,2,1,2,2,1,2,2,2] 6 false rfl,hr_10_6,buildSliceV,fillRows,sm_5,t_29,t_5,fieldAddrV,appendV,content,rg B10 [2,2,2,1,2,2,1,2,2,1,2,2,2] 7 false rfl,hr_10_7,sm_39,h1,h3,h4,q5,q6,h7]
 try simp only [NM,EE] at hJ
 exact hJ
noncomputable def f10_aiirrz_l1_b (k:Nat) (x12:List T39) (x13 x14 h0_ h0__1:Int) (h0__2:List T39) (h1_:List T65) (h2_ h2__1:Int) (h3_:List T65) (h4_ h5_:List T39) : Option R10_aiirrz_l1 :=
 cond ((decide (x14 < x13)))
  (f10_aiirrz_l1_j1 k x12 x13 x14 true h0_ h0__1 h0__2 h1_ h2_ h2__1 h3_ h4_ h5_)
  (some (R10_aiirrz_l1.o1 x12 x13 x14 false h0_ h0__1 h0__2 h1_ h2_ h2__1 h3_ h4_ h5_))
theorem f10_aiirrz_l1_b_ok (k:Nat) (x12:List T39) (x13 x14 h0_ h0__1:Int) (h0__2:List T39) (h1_:List T65) (h2_ h2__1:Int) (h3_:List T65) (h4_ h5_:List T39) (r:R10_aiirrz_l1) (hF:f10_aiirrz_l1_b k x12 x13 x14 h0_ h0__1 h0__2 h1_ h2_ h2__1 h3_ h4_ h5_ = some r) : EX 10 k (nav B10 [1,2,2,1,2,2,2]) (⟨31,[(1,.ptr 30000 0),(2,.ptr 30002 0),(3,.own 30005),(12,.sl 11 (rowsOf encT39 x12)),(13,.p (.int .i64 x13)),(14,.p (.int .i64 x14))],[(30000,.box 26 [.p (.int .i64 h0_),.p (.int .u32 h0__1),.own 30001,.sl 11 (rowsOf encT39 h0__2)]),(30001,.row true 4 65 (rowsOf encT65 h1_)),(30002,.box 26 [.p (.int .i64 h2_),.p (.int .u32 h2__1),.own 30003,.own 30004]),(30003,.row true 4 65 (rowsOf encT65 h3_)),(30004,.row true 11 39 (rowsOf encT39 h4_)),(30005,.row true 11 39 (rowsOf encT39 h5_))]⟩ : St) = some r.st := by
 unfold f10_aiirrz_l1_b at hF
 simp (maxSteps:=999999) (disch:=first|exact D (by decide)|exact K (by kernel_rfl)) only [E,EE,↓reduceIte,simprocAttr,xk B10 [1,2,2,1,2,2,2] .sq rfl,rg B10 [1,1,2,2,1,2,2,2] 4 false rfl,hr_10_4,xk B10 [2,1,2,2,1,2,2,2] .sq rfl,xk B10 [1,2,1,2,2,1,2,2,2] (.cd 15) rfl]
 rcases cond_some hF with ⟨h1,hF⟩ | ⟨h1,hF⟩
 ·have hJ := f10_aiirrz_l1_j1_ok k x12 x13 x14 true h0_ h0__1 h0__2 h1_ h2_ h2__1 h3_ h4_ h5_ _ hF
  simp (maxSteps:=999999) (disch:=first|exact D (by decide)|exact K (by kernel_rfl)) only [E,EE,↓reduceIte,simprocAttr,xk B10 [2,1,2,1,2,2,1,2,2,2] .sk rfl,h1]
  try simp only [NM,EE] at hJ
  exact hJ
 ·cases hF
  simp (maxSteps:=999999) (disch:=first|exact D (by decide)|exact K (by kernel_rfl)) only [E,EE,↓reduceIte,simprocAttr,xk B10 [3,1,2,1,2,2,1,2,2,2] (.ex 0) rfl,R10_aiirrz_l1.st,h1]
noncomputable def f10_aiirrz_l1 (k:Nat) : Nat → (List T39) → Int → Int → Int → Int → (List T39) → (List T65) → Int → Int → (List T65) → (List T39) → (List T39) → Option R10_aiirrz_l1
 | 0,_,_,_,_,_,_,_,_,_,_,_,_ => none
 | n + 1,x12,x13,x14,h0_,h0__1,h0__2,h1_,h2_,h2__1,h3_,h4_,h5_ => Option.bind (f10_aiirrz_l1_b k x12 x13 x14 h0_ h0__1 h0__2 h1_ h2_ h2__1 h3_ h4_ h5_) fun o =>
  match o with
  | .o0 y y_1 y_2 y_3 y_4 y_5 y_6 y_7 y_8 y_9 y_10 y_11 => f10_aiirrz_l1 k n y y_1 y_2 y_3 y_4 y_5 y_6 y_7 y_8 y_9 y_10 y_11
  | .o1 y y_1 y_2 y_3 y_4 y_5 y_6 y_7 y_8 y_9 y_10 y_11 y_12 => some (.o1 y y_1 y_2 y_3 y_4 y_5 y_6 y_7 y_8 y_9 y_10 y_11 y_12)
theorem f10_aiirrz_l1_ok (k n:Nat) : ∀ (x12:List T39) (x13 x14 h0_ h0__1:Int) (h0__2:List T39) (h1_:List T65) (h2_ h2__1:Int) (h3_:List T65) (h4_ h5_:List T39) (r:R10_aiirrz_l1) (hF:f10_aiirrz_l1 k n x12 x13 x14 h0_ h0__1 h0__2 h1_ h2_ h2__1 h3_ h4_ h5_ = some r) (σ:St) (hσ:headR (hints.head 10 4) (hints.canon 10 4) σ = some (⟨31,[(1,.ptr 30000 0),(2,.ptr 30002 0),(3,.own 30005),(12,.sl 11 (rowsOf encT39 x12)),(13,.p (.int .i64 x13)),(14,.p (.int .i64 x14))],[(30000,.box 26 [.p (.int .i64 h0_),.p (.int .u32 h0__1),.own 30001,.sl 11 (rowsOf encT39 h0__2)]),(30001,.row true 4 65 (rowsOf encT65 h1_)),(30002,.box 26 [.p (.int .i64 h2_),.p (.int .u32 h2__1),.own 30003,.own 30004]),(30003,.row true 4 65 (rowsOf encT65 h3_)),(30004,.row true 11 39 (rowsOf encT39 h4_)),(30005,.row true 11 39 (rowsOf encT39 h5_))]⟩ : St)),LP 10 k (nav B10 [1,2,2,1,2,2,2]) n σ = some r.st := by
 induction n with
 | zero => intro x12 x13 x14 h0_ h0__1 h0__2 h1_ h2_ h2__1 h3_ h4_ h5_ r hF; cases hF
 | succ n ih =>
  intro x12 x13 x14 h0_ h0__1 h0__2 h1_ h2_ h2__1 h3_ h4_ h5_ r hF σ hσ
  rw [f10_aiirrz_l1] at hF
  obtain ⟨o,h,hF⟩ := Option.bind_eq_some_iff.1 hF
  have hB := f10_aiirrz_l1_b_ok k x12 x13 x14 h0_ h0__1 h0__2 h1_ h2_ h2__1 h3_ h4_ h5_ o h
  unfold LP at ih ⊢
  unfold EX at hB
  rw [loopK_succ,show firstReg (nav B10 [1,2,2,1,2,2,2]) = 4 from rfl,hσ,headK_some,hB]
  cases o with
  | o0 y y_1 y_2 y_3 y_4 y_5 y_6 y_7 y_8 y_9 y_10 y_11 =>
   refine ih y y_1 y_2 y_3 y_4 y_5 y_6 y_7 y_8 y_9 y_10 y_11 r hF _ ?_
   simp (maxSteps:=999999) (disch:=first|exact D (by decide)|exact K (by kernel_rfl)) only [E,EE,↓reduceIte,simprocAttr,hh_10_4,hc_10_4]
  | o1 y y_1 y_2 y_3 y_4 y_5 y_6 y_7 y_8 y_9 y_10 y_11 y_12 => cases hF; rfl
noncomputable def f10_aiirrz_j2 (k:Nat) (x12:List T39) (x13 x14:Int) (x15:Bool) (h0_ h0__1:Int) (h0__2:List T39) (h1_:List T65) (h2_ h2__1:Int) (h3_:List T65) (h4_ h5_:List T39) : Option R10_aiirrz :=
 some (R10_aiirrz.o0 h0_ h0__1 h1_ h5_)
theorem f10_aiirrz_j2_ok (k:Nat) (x12:List T39) (x13 x14:Int) (x15:Bool) (h0_ h0__1:Int) (h0__2:List T39) (h1_:List T65) (h2_ h2__1:Int) (h3_:List T65) (h4_ h5_:List T39) (r:R10_aiirrz) (hF:f10_aiirrz_j2 k x12 x13 x14 x15 h0_ h0__1 h0__2 h1_ h2_ h2__1 h3_ h4_ h5_ = some r) : finK Try.prog Try.f10 0 (EX 10 k (nav B10 [2,2,2,2]) (⟨31,[(1,.ptr 30000 0),(2,.ptr 30002 0),(3,.own 30005),(12,.sl 11 (rowsOf encT39 x12)),(13,.p (.int .i64 x13)),(14,.p (.int .i64 x14)),(15,.p (.bool x15))],[(30000,.box 26 [.p (.int .i64 h0_),.p (.int .u32 h0__1),.own 30001,.sl 11 (rowsOf encT39 h0__2)]),(30001,.row true 4 65 (rowsOf encT65 h1_)),(30002,.box 26 [.p (.int .i64 h2_),.p (.int .u32 h2__1),.own 30003,.own 30004]),(30003,.row true 4 65 (rowsOf encT65 h3_)),(30004,.row true 11 39 (rowsOf encT39 h4_)),(30005,.row true 11 39 (rowsOf encT39 h5_))]⟩ : St)) = some r.st := by
 unfold f10_aiirrz_j2 at hF
 cases hF
 simp (maxSteps:=999999) (disch:=first|exact D (by decide)|exact K (by kernel_rfl)) only [E,EE,↓reduceIte,simprocAttr,xk B10 [2,2,2,2] .sq rfl,rg B10 [1,2,2,2,2] 9 false rfl,hr_10_9,fieldAddrV,t_26,t_24,xk B10 [2,2,2,2,2] .sq rfl,rg B10 [1,2,2,2,2,2] 10 false rfl,hr_10_10,xk B10 [2,2,2,2,2,2] .rt rfl,finK_norm,finK_ret,fin10,R10_aiirrz.st]
noncomputable def f10_aiirrz_e (k:Nat) (a0 a0_1:Int) (a0_2:List T65) (a0_3:List T39) : Option R10_aiirrz :=
 ifE ((List.length a0_2) * 32 ≤ roomy) (
  Option.bind (f10_aiirrz_l1 k k a0_3 ((List.length a0_3) : Int) 0 a0 a0_1 a0_3 a0_2 0 0 [] [] []) fun o2 =>
   match o2 with
   | .o0 _ _ _ _ _ _ _ _ _ _ _ _ =>
    none
   | .o1 v5 v6 v7 v8 v9 v10 v11 v12 v13 v14 v15 v16 v17 =>
    f10_aiirrz_j2 k v5 v6 v7 v8 v9 v10 v11 v12 v13 v14 v15 v16 v17)
theorem f10_aiirrz_e_ok (k:Nat) (a0 a0_1:Int) (a0_2:List T65) (a0_3:List T39) (r:R10_aiirrz) (hF:f10_aiirrz_e k a0 a0_1 a0_2 a0_3 = some r) : finK Try.prog Try.f10 0 (EX 10 k (nav B10 []) (⟨31,[(0,.agg [.p (.int .i64 a0),.p (.int .u32 a0_1),.sl 4 (rowsOf encT65 a0_2),.sl 11 (rowsOf encT39 a0_3)])],[]⟩ : St)) = some r.st := by
 unfold f10_aiirrz_e at hF
 obtain ⟨h1,hF⟩ := ifE_some.1 hF
 obtain ⟨o2,h3,hF⟩ := bs hF
 have hc4 := f10_aiirrz_l1_ok k k a0_3 ((List.length a0_3) : Int) 0 a0 a0_1 a0_3 a0_2 0 0 [] [] [] _ h3
 simp (maxSteps:=999999) (disch:=first|exact D (by decide)|exact K (by kernel_rfl)) only [E,EE,↓reduceIte,simprocAttr,xk B10 [] .sq rfl,rg B10 [1] 0 false rfl,hr_10_0,t_26,xk B10 [2] .sq rfl,rg B10 [1,2] 1 false rfl,hr_10_1,buildSliceV,fillRows,sm_65,t_23,t_65,fieldAddrV,appendV,content,xk B10 [2,2] .sq rfl,rg B10 [1,2,2] 2 false rfl,hr_10_2,xk B10 [2,2,2] .sq rfl,xk B10 [1,2,2,2] .sq rfl,rg B10 [1,1,2,2,2] 3 false rfl,hr_10_3,t_24,xk B10 [2,1,2,2,2] (.bk 0) rfl,xk B10 [2,2,1,2,2,2] .lp rfl,hh_10_4,hc_10_4,h1]
 (try simp only [NM,EE] at hc4)
 rw [hc4 _ (by simp (maxSteps:=999999) (disch:=first|exact D (by decide)|exact K (by kernel_rfl)) only [E,EE,↓reduceIte,simprocAttr,hh_10_4,hc_10_4,h1])]
 clear hc4
 cases o2 with
 | o0 _ _ _ _ _ _ _ _ _ _ _ _ =>
  (try dsimp only at hF)
  cases hF
 | o1 v5 v6 v7 v8 v9 v10 v11 v12 v13 v14 v15 v16 v17 =>
  (try dsimp only at hF)
  have hJ := f10_aiirrz_j2_ok k v5 v6 v7 v8 v9 v10 v11 v12 v13 v14 v15 v16 v17 _ hF
  simp (maxSteps:=999999) (disch:=first|exact D (by decide)|exact K (by kernel_rfl)) only [E,EE,↓reduceIte,simprocAttr,R10_aiirrz_l1.st,h1]
  try simp only [NM,EE] at hJ
  exact hJ
noncomputable def f10_aiirrz (k:Nat) (a0 a0_1:Int) (a0_2:List T65) (a0_3:List T39) : Option R10_aiirrz := match k with | 0 => none | k + 1 => f10_aiirrz_e k a0 a0_1 a0_2 a0_3
theorem f10_aiirrz_ok (k:Nat) (a0 a0_1:Int) (a0_2:List T65) (a0_3:List T39) (r:R10_aiirrz) (hF:f10_aiirrz k a0 a0_1 a0_2 a0_3 = some r) : CV k 10 [.agg [.p (.int .i64 a0),.p (.int .u32 a0_1),.sl 4 (rowsOf encT65 a0_2),.sl 11 (rowsOf encT39 a0_3)]] [] = some r.st := by
 cases k with
 | zero => cases hF
 | succ k =>
  unfold CV
  rw [ev_call (F := Try.f10) (c := (nav B10 [])) rfl Try.func10 rfl rfl rfl rfl]
  exact f10_aiirrz_e_ok k a0 a0_1 a0_2 a0_3 r hF
-- f23_iii: f23 heliograph/agent.within
inductive R23_iii where
 | o0 (y:Bool)
noncomputable def R23_iii.st : R23_iii → V × List O × List O
 | .o0 y => (.p (.bool y),[],[])
noncomputable def f23_iii_e (k:Nat) (a0 a1 a2:Int) : Option R23_iii :=
 cond ((decide (a0 ≥ a1)))
  (some (R23_iii.o0 (decide (a0 ≤ a2))))
  (some (R23_iii.o0 false))
theorem f23_iii_e_ok (k:Nat) (a0 a1 a2:Int) (r:R23_iii) (hF:f23_iii_e k a0 a1 a2 = some r) : finK Try.prog Try.f23 0 (EX 23 k (nav B23 []) (⟨15,[(0,.p (.int .i64 a0)),(1,.p (.int .i64 a1)),(2,.p (.int .i64 a2))],[]⟩ : St)) = some r.st := by
 unfold f23_iii_e at hF
 simp (maxSteps:=999999) (disch:=first|exact D (by decide)|exact K (by kernel_rfl)) only [E,EE,↓reduceIte,simprocAttr,xk B23 [] .sq rfl,rg B23 [1] 0 false rfl,hr_23_0,xk B23 [2] .sq rfl,rg B23 [1,2] 1 false rfl,hr_23_1]
 rcases cond_some hF with ⟨h1,hF⟩ | ⟨h1,hF⟩
 ·cases hF
  simp (maxSteps:=999999) (disch:=first|exact D (by decide)|exact K (by kernel_rfl)) only [E,EE,↓reduceIte,simprocAttr,xk B23 [2,2] .rt rfl,finK_norm,finK_ret,fin23,R23_iii.st,h1]
 ·cases hF
  simp (maxSteps:=999999) (disch:=first|exact D (by decide)|exact K (by kernel_rfl)) only [E,EE,↓reduceIte,simprocAttr,xk B23 [2,2] .rt rfl,finK_norm,finK_ret,fin23,R23_iii.st,h1]
noncomputable def f23_iii (k:Nat) (a0 a1 a2:Int) : Option R23_iii := match k with | 0 => none | k + 1 => f23_iii_e k a0 a1 a2
theorem f23_iii_ok (k:Nat) (a0 a1 a2:Int) (r:R23_iii) (hF:f23_iii k a0 a1 a2 = some r) : CV k 23 [.p (.int .i64 a0),.p (.int .i64 a1),.p (.int .i64 a2)] [] = some r.st := by
 cases k with
 | zero => cases hF
 | succ k =>
  unfold CV
  rw [ev_call (F := Try.f23) (c := (nav B23 [])) rfl Try.func23 rfl rfl rfl rfl]
  exact f23_iii_e_ok k a0 a1 a2 r hF
-- f16_i: f16 heliograph/agent.New
inductive R16_i where
 | o0 (y y_1:Int) (y_2:List T65) (y_3:List T39) (y_4:Int)
noncomputable def R16_i.st : R16_i → V × List O × List O
 | .o0 y y_1 y_2 y_3 y_4 => (V.tup [.agg [.p (.int .i64 y),.p (.int .u32 y_1),.sl 4 (rowsOf encT65 y_2),.sl 11 (rowsOf encT39 y_3)],.p (.int .i64 y_4)],[],[])
noncomputable def f16_i_j1 (k:Nat) (x0:Int) (x6:Bool) (m2 m2_1:Int) (m2_2:List T65) (m2_3:List T39) : Option R16_i :=
 some (R16_i.o0 x0 1 [] [] 0)
theorem f16_i_j1_ok (k:Nat) (x0:Int) (x6:Bool) (m2 m2_1:Int) (m2_2:List T65) (m2_3:List T39) (r:R16_i) (hF:f16_i_j1 k x0 x6 m2 m2_1 m2_2 m2_3 = some r) : finK Try.prog Try.f16 0 (EX 16 k (nav B16 [2,2]) (⟨10,[(0,.p (.int .i64 x0)),(2,.ptr 2 0),(6,.p (.bool x6))],[(2,.box 26 [.p (.int .i64 m2),.p (.int .u32 m2_1),.sl 4 (rowsOf encT65 m2_2),.sl 11 (rowsOf encT39 m2_3)])]⟩ : St)) = some r.st := by
 unfold f16_i_j1 at hF
 cases hF
 simp (maxSteps:=999999) (disch:=first|exact D (by decide)|exact K (by kernel_rfl)) only [E,EE,↓reduceIte,simprocAttr,xk B16 [2,2] .sq rfl,rg B16 [1,2,2] 3 false rfl,hr_16_3,bl_26,t_26,xk B16 [2,2,2] .rt rfl,finK_norm,finK_ret,fin16,R16_i.st]
noncomputable def f16_i_e (k:Nat) (a0:Int) : Option R16_i :=
 Option.bind (f23_iii k a0 1 6) fun o1 =>
  match o1 with
  | .o0 v4 =>
   cond ((!v4))
    (some (R16_i.o0 0 0 [] [] 2))
    (f16_i_j1 k a0 false 0 0 [] [])
theorem f16_i_e_ok (k:Nat) (a0:Int) (r:R16_i) (hF:f16_i_e k a0 = some r) : finK Try.prog Try.f16 0 (EX 16 k (nav B16 []) (⟨10,[(0,.p (.int .i64 a0))],[]⟩ : St)) = some r.st := by
 unfold f16_i_e at hF
 obtain ⟨o1,h2,hF⟩ := bs hF
 have hc3 := f23_iii_ok k a0 1 6 _ h2
 cases o1 with
 | o0 v4 =>
  (try dsimp only at hF)
  (try simp only [NM,EE,R23_iii.st] at hc3)
  simp (maxSteps:=999999) (disch:=first|exact D (by decide)|exact K (by kernel_rfl)) only [E,EE,↓reduceIte,simprocAttr,xk B16 [] .sq rfl,rg B16 [1] 0 false rfl,hr_16_0,t_26,xk B16 [2] .sq rfl,xk B16 [1,2] .sq rfl,rg B16 [1,1,2] 1 false rfl,hr_16_1,callStep,CL,gv,List.contains,xk B16 [2,1,2] (.cd 6) rfl,hc3]
  rcases cond_some hF with ⟨h5,hF⟩ | ⟨h5,hF⟩
  ·cases hF
   simp (maxSteps:=999999) (disch:=first|exact D (by decide)|exact K (by kernel_rfl)) only [E,EE,↓reduceIte,simprocAttr,xk B16 [2,2,1,2] .sq rfl,rg B16 [1,2,2,1,2] 2 false rfl,hr_16_2,bl_26,t_26,xk B16 [2,2,2,1,2] .rt rfl,finK_norm,finK_ret,fin16,R16_i.st,hc3,h5]
  ·have hJ := f16_i_j1_ok k a0 false 0 0 [] [] _ hF
   simp (maxSteps:=999999) (disch:=first|exact D (by decide)|exact K (by kernel_rfl)) only [E,EE,↓reduceIte,simprocAttr,xk B16 [3,2,1,2] .sk rfl,hc3,h5]
   try simp only [NM,EE] at hJ
   exact hJ
noncomputable def f16_i (k:Nat) (a0:Int) : Option R16_i := match k with | 0 => none | k + 1 => f16_i_e k a0
theorem f16_i_ok (k:Nat) (a0:Int) (r:R16_i) (hF:f16_i k a0 = some r) : CV k 16 [.p (.int .i64 a0)] [] = some r.st := by
 cases k with
 | zero => cases hF
 | succ k =>
  unfold CV
  rw [ev_call (F := Try.f16) (c := (nav B16 [])) rfl Try.func16 rfl rfl rfl rfl]
  exact f16_i_e_ok k a0 r hF
-- f15_aiirrzaiinnz: f15 heliograph/heliographref19.Same
inductive R15_aiirrzaiinnz where
 | o0 (y:Bool)
noncomputable def R15_aiirrzaiinnz.st : R15_aiirrzaiinnz → V × List O × List O
 | .o0 y => (.p (.bool y),[],[])
inductive R15_aiirrzaiinnz_l2 where
 | o0 (y:Bool)
 | o1 (y y_1 y_2:Int) (y_3:List T65) (y_4:List T39) (y_5 y_6:Int) (y_7:List T65) (y_8:List T39)
 | o2 (y:Int) (y_1:Bool) (y_2 y_3:Int) (y_4:List T65) (y_5:List T39) (y_6 y_7:Int) (y_8:List T65) (y_9:List T39)
noncomputable def R15_aiirrzaiinnz_l2.st : R15_aiirrzaiinnz_l2 → Out × St
 | .o0 y => (.ret,(⟨53,[(4,.p (.bool y))],[]⟩ : St))
 | .o1 y y_1 y_2 y_3 y_4 y_5 y_6 y_7 y_8 => (.norm,(⟨53,[(2,.ptr 30000 0),(3,.ptr 30001 0),(5,.p (.int .i64 y))],[(30000,.box 26 [.p (.int .i64 y_1),.p (.int .u32 y_2),.sl 4 (rowsOf encT65 y_3),.sl 11 (rowsOf encT39 y_4)]),(30001,.box 26 [.p (.int .i64 y_5),.p (.int .u32 y_6),.sl 4 (rowsOf encT65 y_7),.sl 11 (rowsOf encT39 y_8)])]⟩ : St))
 | .o2 y y_1 y_2 y_3 y_4 y_5 y_6 y_7 y_8 y_9 => (.exit 0,(⟨53,[(2,.ptr 30000 0),(3,.ptr 30001 0),(5,.p (.int .i64 y)),(39,.p (.bool y_1))],[(30000,.box 26 [.p (.int .i64 y_2),.p (.int .u32 y_3),.sl 4 (rowsOf encT65 y_4),.sl 11 (rowsOf encT39 y_5)]),(30001,.box 26 [.p (.int .i64 y_6),.p (.int .u32 y_7),.sl 4 (rowsOf encT65 y_8),.sl 11 (rowsOf encT39 y_9)])]⟩ : St))
noncomputable def f15_aiirrzaiinnz_l2_j2 (k:Nat) (x5:Int) (x52:Bool) (h0_ h0__1:Int) (h0__2:List T65) (h0__3:List T39) (h1_ h1__1:Int) (h1__2:List T65) (h1__3:List T39) : Option R15_aiirrzaiinnz_l2 :=
 some (R15_aiirrzaiinnz_l2.o1 (IntKind.i64.wrap (x5 + (1:Int))) h0_ h0__1 h0__2 h0__3 h1_ h1__1 h1__2 h1__3)
theorem f15_aiirrzaiinnz_l2_j2_ok (k:Nat) (x5:Int) (x52:Bool) (h0_ h0__1:Int) (h0__2:List T65) (h0__3:List T39) (h1_ h1__1:Int) (h1__2:List T65) (h1__3:List T39) (r:R15_aiirrzaiinnz_l2) (hF:f15_aiirrzaiinnz_l2_j2 k x5 x52 h0_ h0__1 h0__2 h0__3 h1_ h1__1 h1__2 h1__3 = some r) : EX 15 k (nav B15 [2,2,1,2,2,1,2,2]) (⟨53,[(2,.ptr 30000 0),(3,.ptr 30001 0),(5,.p (.int .i64 x5)),(52,.p (.bool x52))],[(30000,.box 26 [.p (.int .i64 h0_),.p (.int .u32 h0__1),.sl 4 (rowsOf encT65 h0__2),.sl 11 (rowsOf encT39 h0__3)]),(30001,.box 26 [.p (.int .i64 h1_),.p (.int .u32 h1__1),.sl 4 (rowsOf encT65 h1__2),.sl 11 (rowsOf encT39 h1__3)])]⟩ : St) = some r.st := by
 unfold f15_aiirrzaiinnz_l2_j2 at hF
 cases hF
 simp (maxSteps:=999999) (disch:=first|exact D (by decide)|exact K (by kernel_rfl)) only [E,EE,↓reduceIte,simprocAttr,rg B15 [2,2,1,2,2,1,2,2] 5 false rfl,hr_15_5,R15_aiirrzaiinnz_l2.st]
noncomputable def f15_aiirrzaiinnz_l2_j1 (k:Nat) (x5:Int) (x39:Bool) (h0_ h0__1:Int) (h0__2:List T65) (h0__3:List T39) (h1_ h1__1:Int) (h1__2:List T65) (h1__3:List T39) : Option R15_aiirrzaiinnz_l2 :=
 ifE ((0:Int) ≤ x5) (
  Option.bind (h0__2[(Int.toNat x5)]?) fun v2 =>
   Option.bind (h1__2[(Int.toNat x5)]?) fun v4 =>
    cond ((!(((v2.Key_Source == v4.Key_Source) && ((v2.Key_Seq == v4.Key_Seq) && (v2.Key_Offset == v4.Key_Offset))) && (v2.N == v4.N))))
     (some (R15_aiirrzaiinnz_l2.o0 false))
     (f15_aiirrzaiinnz_l2_j2 k x5 false h0_ h0__1 h0__2 h0__3 h1_ h1__1 h1__2 h1__3))
theorem f15_aiirrzaiinnz_l2_j1_ok (k:Nat) (x5:Int) (x39:Bool) (h0_ h0__1:Int) (h0__2:List T65) (h0__3:List T39) (h1_ h1__1:Int) (h1__2:List T65) (h1__3:List T39) (r:R15_aiirrzaiinnz_l2) (hF:f15_aiirrzaiinnz_l2_j1 k x5 x39 h0_ h0__1 h0__2 h0__3 h1_ h1__1 h1__2 h1__3 = some r) : EX 15 k (nav B15 [2,1,2,2,1,2,2]) (⟨53,[(2,.ptr 30000 0),(3,.ptr 30001 0),(5,.p (.int .i64 x5)),(39,.p (.bool x39))],[(30000,.box 26 [.p (.int .i64 h0_),.p (.int .u32 h0__1),.sl 4 (rowsOf encT65 h0__2),.sl 11 (rowsOf encT39 h0__3)]),(30001,.box 26 [.p (.int .i64 h1_),.p (.int .u32 h1__1),.sl 4 (rowsOf encT65 h1__2),.sl 11 (rowsOf encT39 h1__3)])]⟩ : St) = some r.st := by
 unfold f15_aiirrzaiinnz_l2_j1 at hF
 obtain ⟨h1,hF⟩ := ifE_some.1 hF
 obtain ⟨v2,h3,hF⟩ := bs hF
 obtain ⟨v4,h5,hF⟩ := bs hF
 simp (maxSteps:=999999) (disch:=first|exact D (by decide)|exact K (by kernel_rfl)) only [E,EE,↓reduceIte,simprocAttr,xk B15 [2,1,2,2,1,2,2] .sq rfl,xk B15 [1,2,1,2,2,1,2,2] (.bk 1) rfl,xk B15 [2,1,2,1,2,2,1,2,2] .sq rfl,rg B15 [1,2,1,2,1,2,2,1,2,2] 6 true rfl,hr_15_6,fieldAddrV,t_26,t_23,indexAddrV,t_65,encT65_eq,ag_65,ag_63,t_63,t_3,t_22,xk B15 [2,2,1,2,1,2,2,1,2,2] (.cd 52) rfl,h1,h3,h5]
 rcases cond_some hF with ⟨h6,hF⟩ | ⟨h6,hF⟩
 ·cases hF
  simp (maxSteps:=999999) (disch:=first|exact D (by decide)|exact K (by kernel_rfl)) only [E,EE,↓reduceIte,simprocAttr,xk B15 [2,2,2,1,2,1,2,2,1,2,2] .sq rfl,rg B15 [1,2,2,2,1,2,1,2,2,1,2,2] 7 false rfl,hr_15_7,xk B15 [2,2,2,2,1,2,1,2,2,1,2,2] .rt rfl,R15_aiirrzaiinnz_l2.st,h1,h3,h5,h6]
 ·have hJ := f15_aiirrzaiinnz_l2_j2_ok k x5 false h0_ h0__1 h0__2 h0__3 h1_ h1__1 h1__2 h1__3 _ hF
  simp (maxSteps:=999999) (disch:=first|exact D (by decide)|exact K (by kernel_rfl)) only [E,EE,↓reduceIte,simprocAttr,xk B15 [3,2,2,1,2,1,2,2,1,2,2] .sk rfl,h1,h3,h5,h6]
  try simp only [NM,EE] at hJ
  exact hJ
noncomputable def f15_aiirrzaiinnz_l2_b (k:Nat) (x5 h0_ h0__1:Int) (h0__2:List T65) (h0__3:List T39) (h1_ h1__1:Int) (h1__2:List T65) (h1__3:List T39) : Option R15_aiirrzaiinnz_l2 :=
 cond ((decide (x5 < ((List.length h0__2) : Int))))
  (f15_aiirrzaiinnz_l2_j1 k x5 true h0_ h0__1 h0__2 h0__3 h1_ h1__1 h1__2 h1__3)
  (some (R15_aiirrzaiinnz_l2.o2 x5 false h0_ h0__1 h0__2 h0__3 h1_ h1__1 h1__2 h1__3))
theorem f15_aiirrzaiinnz_l2_b_ok (k:Nat) (x5 h0_ h0__1:Int) (h0__2:List T65) (h0__3:List T39) (h1_ h1__1:Int) (h1__2:List T65) (h1__3:List T39) (r:R15_aiirrzaiinnz_l2) (hF:f15_aiirrzaiinnz_l2_b k x5 h0_ h0__1 h0__2 h0__3 h1_ h1__1 h1__2 h1__3 = some r) : EX 15 k (nav B15 [1,2,2,1,2,2]) (⟨53,[(2,.ptr 30000 0),(3,.ptr 30001 0),(5,.p (.int .i64 x5))],[(30000,.box 26 [.p (.int .i64 h0_),.p (.int .u32 h0__1),.sl 4 (rowsOf encT65 h0__2),.sl 11 (rowsOf encT39 h0__3)]),(30001,.box 26 [.p (.int .i64 h1_),.p (.int .u32 h1__1),.sl 4 (rowsOf encT65 h1__2),.sl 11 (rowsOf encT39 h1__3)])]⟩ : St) = some r.st := by
 unfold f15_aiirrzaiinnz_l2_b at hF
 simp (maxSteps:=999999) (disch:=first|exact D (by decide)|exact K (by kernel_rfl)) only [E,EE,↓reduceIte,simprocAttr,xk B15 [1,2,2,1,2,2] .sq rfl,xk B15 [1,1,2,2,1,2,2] .sq rfl,rg B15 [1,1,1,2,2,1,2,2] 4 false rfl,hr_15_4,fieldAddrV,t_26,t_23,xk B15 [2,1,1,2,2,1,2,2] (.cd 39) rfl]
 rcases cond_some hF with ⟨h1,hF⟩ | ⟨h1,hF⟩
 ·have hJ := f15_aiirrzaiinnz_l2_j1_ok k x5 true h0_ h0__1 h0__2 h0__3 h1_ h1__1 h1__2 h1__3 _ hF
  simp (maxSteps:=999999) (disch:=first|exact D (by decide)|exact K (by kernel_rfl)) only [E,EE,↓reduceIte,simprocAttr,xk B15 [2,2,1,1,2,2,1,2,2] .sk rfl,h1]
  try simp only [NM,EE] at hJ
  exact hJ
 ·cases hF
  simp (maxSteps:=999999) (disch:=first|exact D (by decide)|exact K (by kernel_rfl)) only [E,EE,↓reduceIte,simprocAttr,xk B15 [3,2,1,1,2,2,1,2,2] (.ex 0) rfl,R15_aiirrzaiinnz_l2.st,h1]
noncomputable def f15_aiirrzaiinnz_l2 (k:Nat) : Nat → Int → Int → Int → (List T65) → (List T39) → Int → Int → (List T65) → (List T39) → Option R15_aiirrzaiinnz_l2
 | 0,_,_,_,_,_,_,_,_,_ => none
 | n + 1,x5,h0_,h0__1,h0__2,h0__3,h1_,h1__1,h1__2,h1__3 => Option.bind (f15_aiirrzaiinnz_l2_b k x5 h0_ h0__1 h0__2 h0__3 h1_ h1__1 h1__2 h1__3) fun o =>
  match o with
  | .o0 y => some (.o0 y)
  | .o1 y y_1 y_2 y_3 y_4 y_5 y_6 y_7 y_8 => f15_aiirrzaiinnz_l2 k n y y_1 y_2 y_3 y_4 y_5 y_6 y_7 y_8
  | .o2 y y_1 y_2 y_3 y_4 y_5 y_6 y_7 y_8 y_9 => some (.o2 y y_1 y_2 y_3 y_4 y_5 y_6 y_7 y_8 y_9)
theorem f15_aiirrzaiinnz_l2_ok (k n:Nat) : ∀ (x5 h0_ h0__1:Int) (h0__2:List T65) (h0__3:List T39) (h1_ h1__1:Int) (h1__2:List T65) (h1__3:List T39) (r:R15_aiirrzaiinnz_l2) (hF:f15_aiirrzaiinnz_l2 k n x5 h0_ h0__1 h0__2 h0__3 h1_ h1__1 h1__2 h1__3 = some r) (σ:St) (hσ:headR (hints.head 15 4) (hints.canon 15 4) σ = some (⟨53,[(2,.ptr 30000 0),(3,.ptr 30001 0),(5,.p (.int .i64 x5))],[(30000,.box 26 [.p (.int .i64 h0_),.p (.int .u32 h0__1),.sl 4 (rowsOf encT65 h0__2),.sl 11 (rowsOf encT39 h0__3)]),(30001,.box 26 [.p (.int .i64 h1_),.p (.int .u32 h1__1),.sl 4 (rowsOf encT65 h1__2),.sl 11 (rowsOf encT39 h1__3)])]⟩ : St)),LP 15 k (nav B15 [1,2,2,1,2,2]) n σ = some r.st := by
 induction n with
 | zero => intro x5 h0_ h0__1 h0__2 h0__3 h1_ h1__1 h1__2 h1__3 r hF; cases hF
 | succ n ih =>
  intro x5 h0_ h0__1 h0__2 h0__3 h1_ h1__1 h1__2 h1__3 r hF σ hσ
  rw [f15_aiirrzaiinnz_l2] at hF
  obtain ⟨o,h,hF⟩ := Option.bind_eq_some_iff.1 hF
  have hB := f15_aiirrzaiinnz_l2_b_ok k x5 h0_ h0__1 h0__2 h0__3 h1_ h1__1 h1__2 h1__3 o h
  unfold LP at ih ⊢
  unfold EX at hB
  rw [loopK_succ,show firstReg (nav B15 [1,2,2,1,2,2]) = 4 from rfl,hσ,headK_some,hB]
  cases o with
  | o0 y => cases hF; rfl
  | o1 y y_1 y_2 y_3 y_4 y_5 y_6 y_7 y_8 =>
   refine ih y y_1 y_2 y_3 y_4 y_5 y_6 y_7 y_8 r hF _ ?_
   simp (maxSteps:=999999) (disch:=first|exact D (by decide)|exact K (by kernel_rfl)) only [E,EE,↓reduceIte,simprocAttr,hh_15_4,hc_15_4]
  | o2 y y_1 y_2 y_3 y_4 y_5 y_6 y_7 y_8 y_9 => cases hF; rfl
noncomputable def f15_aiirrzaiinnz_j3 (k:Nat) (x5:Int) (x39:Bool) (h0_ h0__1:Int) (h0__2:List T65) (h0__3:List T39) (h1_ h1__1:Int) (h1__2:List T65) (h1__3:List T39) : Option R15_aiirrzaiinnz :=
 some (R15_aiirrzaiinnz.o0 true)
theorem f15_aiirrzaiinnz_j3_ok (k:Nat) (x5:Int) (x39:Bool) (h0_ h0__1:Int) (h0__2:List T65) (h0__3:List T39) (h1_ h1__1:Int) (h1__2:List T65) (h1__3:List T39) (r:R15_aiirrzaiinnz) (hF:f15_aiirrzaiinnz_j3 k x5 x39 h0_ h0__1 h0__2 h0__3 h1_ h1__1 h1__2 h1__3 = some r) : finK Try.prog Try.f15 0 (EX 15 k (nav B15 [2,2,2]) (⟨53,[(2,.ptr 30000 0),(3,.ptr 30001 0),(5,.p (.int .i64 x5)),(39,.p (.bool x39))],[(30000,.box 26 [.p (.int .i64 h0_),.p (.int .u32 h0__1),.sl 4 (rowsOf encT65 h0__2),.sl 11 (rowsOf encT39 h0__3)]),(30001,.box 26 [.p (.int .i64 h1_),.p (.int .u32 h1__1),.sl 4 (rowsOf encT65 h1__2),.sl 11 (rowsOf encT39 h1__3)])]⟩ : St)) = some r.st := by
 unfold f15_aiirrzaiinnz_j3 at hF
 cases hF
 simp (maxSteps:=999999) (disch:=first|exact D (by decide)|exact K (by kernel_rfl)) only [E,EE,↓reduceIte,simprocAttr,xk B15 [2,2,2] .sq rfl,rg B15 [1,2,2,2] 8 false rfl,hr_15_8,xk B15 [2,2,2,2] .rt rfl,finK_norm,finK_ret,fin15,R15_aiirrzaiinnz.st]
noncomputable def f15_aiirrzaiinnz_j1 (k:Nat) (x34:Bool) (m2 m2_1:Int) (m2_2:List T65) (m2_3:List T39) (m3 m3_1:Int) (m3_2:List T65) (m3_3:List T39) : Option R15_aiirrzaiinnz :=
 Option.bind (f15_aiirrzaiinnz_l2 k k 0 m2 m2_1 m2_2 m2_3 m3 m3_1 m3_2 m3_3) fun o1 =>
  match o1 with
  | .o0 v4 =>
   some (R15_aiirrzaiinnz.o0 v4)
  | .o1 _ _ _ _ _ _ _ _ _ =>
   none
  | .o2 v5 v6 v7 v8 v9 v10 v11 v12 v13 v14 =>
   f15_aiirrzaiinnz_j3 k v5 v6 v7 v8 v9 v10 v11 v12 v13 v14
theorem f15_aiirrzaiinnz_j1_ok (k:Nat) (x34:Bool) (m2 m2_1:Int) (m2_2:List T65) (m2_3:List T39) (m3 m3_1:Int) (m3_2:List T65) (m3_3:List T39) (r:R15_aiirrzaiinnz) (hF:f15_aiirrzaiinnz_j1 k x34 m2 m2_1 m2_2 m2_3 m3 m3_1 m3_2 m3_3 = some r) : finK Try.prog Try.f15 0 (EX 15 k (nav B15 [2,2]) (⟨53,[(2,.ptr 2 0),(3,.ptr 3 0),(34,.p (.bool x34))],[(2,.box 26 [.p (.int .i64 m2),.p (.int .u32 m2_1),.sl 4 (rowsOf encT65 m2_2),.sl 11 (rowsOf encT39 m2_3)]),(3,.box 26 [.p (.int .i64 m3),.p (.int .u32 m3_1),.sl 4 (rowsOf encT65 m3_2),.sl 11 (rowsOf encT39 m3_3)])]⟩ : St)) = some r.st := by
 unfold f15_aiirrzaiinnz_j1 at hF
 obtain ⟨o1,h2,hF⟩ := bs hF
 have hc3 := f15_aiirrzaiinnz_l2_ok k k 0 m2 m2_1 m2_2 m2_3 m3 m3_1 m3_2 m3_3 _ h2
 simp (maxSteps:=999999) (disch:=first|exact D (by decide)|exact K (by kernel_rfl)) only [E,EE,↓reduceIte,simprocAttr,xk B15 [2,2] .sq rfl,xk B15 [1,2,2] .sq rfl,rg B15 [1,1,2,2] 3 false rfl,hr_15_3,xk B15 [2,1,2,2] (.bk 0) rfl,xk B15 [2,2,1,2,2] .lp rfl,hh_15_4,hc_15_4]
 (try simp only [NM,EE] at hc3)
 rw [hc3 _ (by simp (maxSteps:=999999) (disch:=first|exact D (by decide)|exact K (by kernel_rfl)) only [E,EE,↓reduceIte,simprocAttr,hh_15_4,hc_15_4])]
 clear hc3
 cases o1 with
 | o0 v4 =>
  (try dsimp only at hF)
  cases hF
  simp (maxSteps:=999999) (disch:=first|exact D (by decide)|exact K (by kernel_rfl)) only [E,EE,↓reduceIte,simprocAttr,R15_aiirrzaiinnz_l2.st,finK_norm,finK_ret,fin15,R15_aiirrzaiinnz.st]
 | o1 _ _ _ _ _ _ _ _ _ =>
  (try dsimp only at hF)
  cases hF
 | o2 v5 v6 v7 v8 v9 v10 v11 v12 v13 v14 =>
  (try dsimp only at hF)
  have hJ := f15_aiirrzaiinnz_j3_ok k v5 v6 v7 v8 v9 v10 v11 v12 v13 v14 _ hF
  simp (maxSteps:=999999) (disch:=first|exact D (by decide)|exact K (by kernel_rfl)) only [E,EE,↓reduceIte,simprocAttr,R15_aiirrzaiinnz_l2.st]
  try simp only [NM,EE] at hJ
  exact hJ
noncomputable def f15_aiirrzaiinnz_e (k:Nat) (a0 a0_1:Int) (a0_2:List T65) (a0_3:List T39) (a1 a1_1:Int) : Option R15_aiirrzaiinnz :=
 cond ((a0 != a1))
  (some (R15_aiirrzaiinnz.o0 false))
  (
   cond ((a0_1 != a1_1))
    (some (R15_aiirrzaiinnz.o0 false))
    (
     cond ((((List.length a0_2) : Int) != 0))
      (some (R15_aiirrzaiinnz.o0 false))
      (
       Option.bind (f31_rr k a0_3 []) fun o4 =>
        match o4 with
        | .o0 v7 =>
         cond ((!v7))
          (some (R15_aiirrzaiinnz.o0 false))
          (f15_aiirrzaiinnz_j1 k false a0 a0_1 a0_2 a0_3 a1 a1_1 [] []))))
theorem f15_aiirrzaiinnz_e_ok (k:Nat) (a0 a0_1:Int) (a0_2:List T65) (a0_3:List T39) (a1 a1_1:Int) (r:R15_aiirrzaiinnz) (hF:f15_aiirrzaiinnz_e k a0 a0_1 a0_2 a0_3 a1 a1_1 = some r) : finK Try.prog Try.f15 0 (EX 15 k (nav B15 []) (⟨53,[(0,.agg [.p (.int .i64 a0),.p (.int .u32 a0_1),.sl 4 (rowsOf encT65 a0_2),.sl 11 (rowsOf encT39 a0_3)]),(1,.agg [.p (.int .i64 a1),.p (.int .u32 a1_1),V.nil,V.nil])],[]⟩ : St)) = some r.st := by
 unfold f15_aiirrzaiinnz_e at hF
 simp (maxSteps:=999999) (disch:=first|exact D (by decide)|exact K (by kernel_rfl)) only [E,EE,↓reduceIte,simprocAttr,xk B15 [] .sq rfl,rg B15 [1] 0 false rfl,hr_15_0,xk B15 [2] .sq rfl,xk B15 [1,2] .sq rfl,rg B15 [1,1,2] 1 false rfl,hr_15_1,fieldAddrV,t_26,t_3]
 rcases cond_some hF with ⟨h1,hF⟩ | ⟨h1,hF⟩
 ·cases hF
  simp (maxSteps:=999999) (disch:=first|exact D (by decide)|exact K (by kernel_rfl)) only [E,EE,↓reduceIte,simprocAttr,xk B15 [2,1,2] (.cd 34) rfl,xk B15 [2,2,1,2] .sq rfl,rg B15 [1,2,2,1,2] 2 false rfl,hr_15_2,xk B15 [2,2,2,1,2] .rt rfl,finK_norm,finK_ret,fin15,R15_aiirrzaiinnz.st,h1]
 ·simp (maxSteps:=999999) (disch:=first|exact D (by decide)|exact K (by kernel_rfl)) only [E,EE,↓reduceIte,simprocAttr,fieldAddrV,t_26,t_22,h1]
  rcases cond_some hF with ⟨h2,hF⟩ | ⟨h2,hF⟩
  ·cases hF
   simp (maxSteps:=999999) (disch:=first|exact D (by decide)|exact K (by kernel_rfl)) only [E,EE,↓reduceIte,simprocAttr,xk B15 [2,1,2] (.cd 34) rfl,xk B15 [2,2,1,2] .sq rfl,rg B15 [1,2,2,1,2] 2 false rfl,hr_15_2,xk B15 [2,2,2,1,2] .rt rfl,finK_norm,finK_ret,fin15,R15_aiirrzaiinnz.st,h1,h2]
  ·simp (maxSteps:=999999) (disch:=first|exact D (by decide)|exact K (by kernel_rfl)) only [E,EE,↓reduceIte,simprocAttr,fieldAddrV,t_26,t_23,h1,h2]
   rcases cond_some hF with ⟨h3,hF⟩ | ⟨h3,hF⟩
   ·cases hF
    simp (maxSteps:=999999) (disch:=first|exact D (by decide)|exact K (by kernel_rfl)) only [E,EE,↓reduceIte,simprocAttr,xk B15 [2,1,2] (.cd 34) rfl,xk B15 [2,2,1,2] .sq rfl,rg B15 [1,2,2,1,2] 2 false rfl,hr_15_2,xk B15 [2,2,2,1,2] .rt rfl,finK_norm,finK_ret,fin15,R15_aiirrzaiinnz.st,h1,h2,h3]
   ·obtain ⟨o4,h5,hF⟩ := bs hF
    have hc6 := f31_rr_ok k a0_3 [] _ h5
    cases o4 with
    | o0 v7 =>
     (try dsimp only at hF)
     (try simp only [NM,EE,R31_rr.st] at hc6)
     simp (maxSteps:=999999) (disch:=first|exact D (by decide)|exact K (by kernel_rfl)) only [E,EE,↓reduceIte,simprocAttr,fieldAddrV,t_26,t_24,callStep,CL,gv,List.contains,xk B15 [2,1,2] (.cd 34) rfl,h1,h2,h3,hc6]
     rcases cond_some hF with ⟨h8,hF⟩ | ⟨h8,hF⟩
     ·cases hF
      simp (maxSteps:=999999) (disch:=first|exact D (by decide)|exact K (by kernel_rfl)) only [E,EE,↓reduceIte,simprocAttr,xk B15 [2,2,1,2] .sq rfl,rg B15 [1,2,2,1,2] 2 false rfl,hr_15_2,xk B15 [2,2,2,1,2] .rt rfl,finK_norm,finK_ret,fin15,R15_aiirrzaiinnz.st,h1,h2,h3,hc6,h8]
     ·have hJ := f15_aiirrzaiinnz_j1_ok k false a0 a0_1 a0_2 a0_3 a1 a1_1 [] [] _ hF
      simp (maxSteps:=999999) (disch:=first|exact D (by decide)|exact K (by kernel_rfl)) only [E,EE,↓reduceIte,simprocAttr,xk B15 [3,2,1,2] .sk rfl,h1,h2,h3,hc6,h8]
      try simp only [NM,EE] at hJ
      exact hJ
noncomputable def f15_aiirrzaiinnz (k:Nat) (a0 a0_1:Int) (a0_2:List T65) (a0_3:List T39) (a1 a1_1:Int) : Option R15_aiirrzaiinnz := match k with | 0 => none | k + 1 => f15_aiirrzaiinnz_e k a0 a0_1 a0_2 a0_3 a1 a1_1
theorem f15_aiirrzaiinnz_ok (k:Nat) (a0 a0_1:Int) (a0_2:List T65) (a0_3:List T39) (a1 a1_1:Int) (r:R15_aiirrzaiinnz) (hF:f15_aiirrzaiinnz k a0 a0_1 a0_2 a0_3 a1 a1_1 = some r) : CV k 15 [.agg [.p (.int .i64 a0),.p (.int .u32 a0_1),.sl 4 (rowsOf encT65 a0_2),.sl 11 (rowsOf encT39 a0_3)],.agg [.p (.int .i64 a1),.p (.int .u32 a1_1),V.nil,V.nil]] [] = some r.st := by
 cases k with
 | zero => cases hF
 | succ k =>
  unfold CV
  rw [ev_call (F := Try.f15) (c := (nav B15 [])) rfl Try.func15 rfl rfl rfl rfl]
  exact f15_aiirrzaiinnz_e_ok k a0 a0_1 a0_2 a0_3 a1 a1_1 r hF
-- f12_aiirrzii: f12 heliograph/heliographlaw19.none
inductive R12_aiirrzii where
 | o0 (y:Bool)
noncomputable def R12_aiirrzii.st : R12_aiirrzii → V × List O × List O
 | .o0 y => (.p (.bool y),[],[])
noncomputable def f12_aiirrzii_e (k:Nat) (a0 a0_1:Int) (a0_2:List T65) (a0_3:List T39) (a1 a2:Int) : Option R12_aiirrzii :=
 Option.bind (f15_aiirrzaiinnz k a0 a0_1 a0_2 a0_3 0 0) fun o1 =>
  match o1 with
  | .o0 v4 =>
   cond (v4)
    (some (R12_aiirrzii.o0 (a1 == a2)))
    (some (R12_aiirrzii.o0 false))
theorem f12_aiirrzii_e_ok (k:Nat) (a0 a0_1:Int) (a0_2:List T65) (a0_3:List T39) (a1 a2:Int) (r:R12_aiirrzii) (hF:f12_aiirrzii_e k a0 a0_1 a0_2 a0_3 a1 a2 = some r) : finK Try.prog Try.f12 0 (EX 12 k (nav B12 []) (⟨15,[(0,.agg [.p (.int .i64 a0),.p (.int .u32 a0_1),.sl 4 (rowsOf encT65 a0_2),.sl 11 (rowsOf encT39 a0_3)]),(1,.p (.int .i64 a1)),(2,.p (.int .i64 a2))],[]⟩ : St)) = some r.st := by
 unfold f12_aiirrzii_e at hF
 obtain ⟨o1,h2,hF⟩ := bs hF
 have hc3 := f15_aiirrzaiinnz_ok k a0 a0_1 a0_2 a0_3 0 0 _ h2
 cases o1 with
 | o0 v4 =>
  (try dsimp only at hF)
  (try simp only [NM,EE,R15_aiirrzaiinnz.st] at hc3)
  simp (maxSteps:=999999) (disch:=first|exact D (by decide)|exact K (by kernel_rfl)) only [E,EE,↓reduceIte,simprocAttr,xk B12 [] .sq rfl,rg B12 [1] 0 false rfl,hr_12_0,xk B12 [2] .sq rfl,rg B12 [1,2] 1 false rfl,hr_12_1,t_26,bl_26,callStep,CL,gv,List.contains,hc3]
  rcases cond_some hF with ⟨h5,hF⟩ | ⟨h5,hF⟩
  ·cases hF
   simp (maxSteps:=999999) (disch:=first|exact D (by decide)|exact K (by kernel_rfl)) only [E,EE,↓reduceIte,simprocAttr,xk B12 [2,2] .rt rfl,finK_norm,finK_ret,fin12,R12_aiirrzii.st,hc3,h5]
  ·cases hF
   simp (maxSteps:=999999) (disch:=first|exact D (by decide)|exact K (by kernel_rfl)) only [E,EE,↓reduceIte,simprocAttr,xk B12 [2,2] .rt rfl,finK_norm,finK_ret,fin12,R12_aiirrzii.st,hc3,h5]
noncomputable def f12_aiirrzii (k:Nat) (a0 a0_1:Int) (a0_2:List T65) (a0_3:List T39) (a1 a2:Int) : Option R12_aiirrzii := match k with | 0 => none | k + 1 => f12_aiirrzii_e k a0 a0_1 a0_2 a0_3 a1 a2
theorem f12_aiirrzii_ok (k:Nat) (a0 a0_1:Int) (a0_2:List T65) (a0_3:List T39) (a1 a2:Int) (r:R12_aiirrzii) (hF:f12_aiirrzii k a0 a0_1 a0_2 a0_3 a1 a2 = some r) : CV k 12 [.agg [.p (.int .i64 a0),.p (.int .u32 a0_1),.sl 4 (rowsOf encT65 a0_2),.sl 11 (rowsOf encT39 a0_3)],.p (.int .i64 a1),.p (.int .i64 a2)] [] = some r.st := by
 cases k with
 | zero => cases hF
 | succ k =>
  unfold CV
  rw [ev_call (F := Try.f12) (c := (nav B12 [])) rfl Try.func12 rfl rfl rfl rfl]
  exact f12_aiirrzii_e_ok k a0 a0_1 a0_2 a0_3 a1 a2 r hF
end Go.Proofs.YticggdfaehneeaaV