/- What the program's functions answer: plain functions,and that the interpreter answers what they do. Written by a program of this session,out of the translation. -/
import Derived.Test.YticggdfaehneeaaVP4
namespace Go.Proofs.YticggdfaehneeaaV
open Go
set_option linter.unusedVariables false
set_option linter.unusedSimpArgs false
set_option maxRecDepth 8000
set_option maxHeartbeats 4000000
-- f59_r: f59 heliograph/pieces.gaps
inductive R59_r where
 | o0 (y:List T104)
noncomputable def R59_r.st : R59_r → V × List O × List O
 | .o0 y => (.own 2000000,[],[.row true 2 104 (rowsOf encT104 y)])
inductive R59_r_s1_l1_l1 where
 | o0 (y:List Bool) (y_1:Int) (y_2:List T104)
 | o1 (y:List Bool) (y_1:Int) (y_2:Bool) (y_3:List T104)
noncomputable def R59_r_s1_l1_l1.st : R59_r_s1_l1_l1 → Out × St
 | .o0 y y_1 y_2 => (.norm,(⟨47,[(0,.sl 1 (rowsOf encB y)),(3,.own 30000),(4,.p (.int .i64 y_1))],[(30000,.row true 2 104 (rowsOf encT104 y_2))]⟩ : St))
 | .o1 y y_1 y_2 y_3 => (.exit 2,(⟨47,[(0,.sl 1 (rowsOf encB y)),(3,.own 30000),(4,.p (.int .i64 y_1)),(15,.p (.bool y_2))],[(30000,.row true 2 104 (rowsOf encT104 y_3))]⟩ : St))
noncomputable def f59_r_s1_l1_l1_j1 (k:Nat) (x0:List Bool) (x4:Int) (x15:Bool) (h0_:List T104) : Option R59_r_s1_l1_l1 :=
 some (R59_r_s1_l1_l1.o0 x0 (IntKind.i64.wrap (x4 + (1:Int))) h0_)
theorem f59_r_s1_l1_l1_j1_ok (k:Nat) (x0:List Bool) (x4:Int) (x15:Bool) (h0_:List T104) (r:R59_r_s1_l1_l1) (hF:f59_r_s1_l1_l1_j1 k x0 x4 x15 h0_ = some r) : EX 59 k (nav B59 [2,1,2,1,2,1,2,1,2,2,2,1,2]) (⟨47,[(0,.sl 1 (rowsOf encB x0)),(3,.own 30000),(4,.p (.int .i64 x4)),(15,.p (.bool x15))],[(30000,.row true 2 104 (rowsOf encT104 h0_))]⟩ : St) = some r.st := by
 unfold f59_r_s1_l1_l1_j1 at hF
 cases hF
 simp (maxSteps:=999999) (disch:=first|exact D (by decide)|exact K (by kernel_rfl)) only [E,EE,↓reduceIte,simprocAttr,xk B59 [2,1,2,1,2,1,2,1,2,2,2,1,2] (.bk 3) rfl,rg B59 [2,2,1,2,1,2,1,2,1,2,2,2,1,2] 4 false rfl,hr_59_4,R59_r_s1_l1_l1.st]
noncomputable def f59_r_s1_l1_l1_b (k:Nat) (x0:List Bool) (x4:Int) (h0_:List T104) : Option R59_r_s1_l1_l1 :=
 cond ((decide (x4 < ((List.length x0) : Int))))
  (
   ifE ((0:Int) ≤ x4) (
    Option.bind (x0[(Int.toNat x4)]?) fun v3 =>
     cond (v3)
      (f59_r_s1_l1_l1_j1 k x0 x4 true h0_)
      (some (R59_r_s1_l1_l1.o1 x0 x4 false h0_))))
  (some (R59_r_s1_l1_l1.o1 x0 x4 false h0_))
theorem f59_r_s1_l1_l1_b_ok (k:Nat) (x0:List Bool) (x4:Int) (h0_:List T104) (r:R59_r_s1_l1_l1) (hF:f59_r_s1_l1_l1_b k x0 x4 h0_ = some r) : EX 59 k (nav B59 [1,2,1,2,1,2,1,2,2,2,1,2]) (⟨47,[(0,.sl 1 (rowsOf encB x0)),(3,.own 30000),(4,.p (.int .i64 x4))],[(30000,.row true 2 104 (rowsOf encT104 h0_))]⟩ : St) = some r.st := by
 unfold f59_r_s1_l1_l1_b at hF
 simp (maxSteps:=999999) (disch:=first|exact D (by decide)|exact K (by kernel_rfl)) only [E,EE,↓reduceIte,simprocAttr,xk B59 [1,2,1,2,1,2,1,2,2,2,1,2] .sq rfl,xk B59 [1,1,2,1,2,1,2,1,2,2,2,1,2] .sq rfl,rg B59 [1,1,1,2,1,2,1,2,1,2,2,2,1,2] 3 false rfl,hr_59_3,t_90]
 rcases cond_some hF with ⟨h1,hF⟩ | ⟨h1,hF⟩
 ·obtain ⟨h2,hF⟩ := ifE_some.1 hF
  obtain ⟨v3,h4,hF⟩ := bs hF
  simp (maxSteps:=999999) (disch:=first|exact D (by decide)|exact K (by kernel_rfl)) only [E,EE,↓reduceIte,simprocAttr,indexAddrV,t_90,t_4,encB_eq,xk B59 [2,1,1,2,1,2,1,2,1,2,2,2,1,2] (.cd 15) rfl,h1,h2,h4]
  rcases cond_some hF with ⟨h5,hF⟩ | ⟨h5,hF⟩
  ·have hJ := f59_r_s1_l1_l1_j1_ok k x0 x4 true h0_ _ hF
   simp (maxSteps:=999999) (disch:=first|exact D (by decide)|exact K (by kernel_rfl)) only [E,EE,↓reduceIte,simprocAttr,xk B59 [2,2,1,1,2,1,2,1,2,1,2,2,2,1,2] .sk rfl,h1,h2,h4,h5]
   try simp only [NM,EE] at hJ
   exact hJ
  ·cases hF
   simp (maxSteps:=999999) (disch:=first|exact D (by decide)|exact K (by kernel_rfl)) only [E,EE,↓reduceIte,simprocAttr,xk B59 [3,2,1,1,2,1,2,1,2,1,2,2,2,1,2] (.ex 2) rfl,R59_r_s1_l1_l1.st,h1,h2,h4,h5]
 ·cases hF
  simp (maxSteps:=999999) (disch:=first|exact D (by decide)|exact K (by kernel_rfl)) only [E,EE,↓reduceIte,simprocAttr,xk B59 [2,1,1,2,1,2,1,2,1,2,2,2,1,2] (.cd 15) rfl,xk B59 [3,2,1,1,2,1,2,1,2,1,2,2,2,1,2] (.ex 2) rfl,R59_r_s1_l1_l1.st,h1]
noncomputable def f59_r_s1_l1_l1 (k:Nat) : Nat → (List Bool) → Int → (List T104) → Option R59_r_s1_l1_l1
 | 0,_,_,_ => none
 | n + 1,x0,x4,h0_ => Option.bind (f59_r_s1_l1_l1_b k x0 x4 h0_) fun o =>
  match o with
  | .o0 y y_1 y_2 => f59_r_s1_l1_l1 k n y y_1 y_2
  | .o1 y y_1 y_2 y_3 => some (.o1 y y_1 y_2 y_3)
theorem f59_r_s1_l1_l1_ok (k n:Nat) : ∀ (x0:List Bool) (x4:Int) (h0_:List T104) (r:R59_r_s1_l1_l1) (hF:f59_r_s1_l1_l1 k n x0 x4 h0_ = some r) (σ:St) (hσ:headR (hints.head 59 3) (hints.canon 59 3) σ = some (⟨47,[(0,.sl 1 (rowsOf encB x0)),(3,.own 30000),(4,.p (.int .i64 x4))],[(30000,.row true 2 104 (rowsOf encT104 h0_))]⟩ : St)),LP 59 k (nav B59 [1,2,1,2,1,2,1,2,2,2,1,2]) n σ = some r.st := by
 induction n with
 | zero => intro x0 x4 h0_ r hF; cases hF
 | succ n ih =>
  intro x0 x4 h0_ r hF σ hσ
  rw [f59_r_s1_l1_l1] at hF
  obtain ⟨o,h,hF⟩ := Option.bind_eq_some_iff.1 hF
  have hB := f59_r_s1_l1_l1_b_ok k x0 x4 h0_ o h
  unfold LP at ih ⊢
  unfold EX at hB
  rw [loopK_succ,show firstReg (nav B59 [1,2,1,2,1,2,1,2,2,2,1,2]) = 3 from rfl,hσ,headK_some,hB]
  cases o with
  | o0 y y_1 y_2 =>
   refine ih y y_1 y_2 r hF _ ?_
   simp (maxSteps:=999999) (disch:=first|exact D (by decide)|exact K (by kernel_rfl)) only [E,EE,↓reduceIte,simprocAttr,hh_59_3,hc_59_3]
  | o1 y y_1 y_2 y_3 => cases hF; rfl
inductive R59_r_s1_l1_l4 where
 | o0 (y:List Bool) (y_1:Int) (y_2:List T104) (y_3 y_4:Int)
 | o1 (y:List Bool) (y_1:Int) (y_2:Bool) (y_3:List T104) (y_4 y_5:Int)
noncomputable def R59_r_s1_l1_l4.st : R59_r_s1_l1_l4 → Out × St
 | .o0 y y_1 y_2 y_3 y_4 => (.norm,(⟨47,[(0,.sl 1 (rowsOf encB y)),(3,.own 30000),(4,.p (.int .i64 y_1)),(5,.ptr 30001 0)],[(30000,.row true 2 104 (rowsOf encT104 y_2)),(30001,.box 104 [.p (.int .i64 y_3),.p (.int .i64 y_4)])]⟩ : St))
 | .o1 y y_1 y_2 y_3 y_4 y_5 => (.exit 4,(⟨47,[(0,.sl 1 (rowsOf encB y)),(3,.own 30000),(4,.p (.int .i64 y_1)),(5,.ptr 30001 0),(34,.p (.bool y_2))],[(30000,.row true 2 104 (rowsOf encT104 y_3)),(30001,.box 104 [.p (.int .i64 y_4),.p (.int .i64 y_5)])]⟩ : St))
noncomputable def f59_r_s1_l1_l4_j1 (k:Nat) (x0:List Bool) (x4:Int) (x34:Bool) (h0_:List T104) (h1_ h1__1:Int) : Option R59_r_s1_l1_l4 :=
 some (R59_r_s1_l1_l4.o0 x0 (IntKind.i64.wrap (x4 + (1:Int))) h0_ h1_ h1__1)
theorem f59_r_s1_l1_l4_j1_ok (k:Nat) (x0:List Bool) (x4:Int) (x34:Bool) (h0_:List T104) (h1_ h1__1:Int) (r:R59_r_s1_l1_l4) (hF:f59_r_s1_l1_l4_j1 k x0 x4 x34 h0_ h1_ h1__1 = some r) : EX 59 k (nav B59 [2,1,2,1,2,2,2,2,1,2,1,2,2,2,1,2]) (⟨47,[(0,.sl 1 (rowsOf encB x0)),(3,.own 30000),(4,.p (.int .i64 x4)),(5,.ptr 30001 0),(34,.p (.bool x34))],[(30000,.row true 2 104 (rowsOf encT104 h0_)),(30001,.box 104 [.p (.int .i64 h1_),.p (.int .i64 h1__1)])]⟩ : St) = some r.st := by
 unfold f59_r_s1_l1_l4_j1 at hF
 cases hF
 simp (maxSteps:=999999) (disch:=first|exact D (by decide)|exact K (by kernel_rfl)) only [E,EE,↓reduceIte,simprocAttr,xk B59 [2,1,2,1,2,2,2,2,1,2,1,2,2,2,1,2] (.bk 5) rfl,rg B59 [2,2,1,2,1,2,2,2,2,1,2,1,2,2,2,1,2] 8 false rfl,hr_59_8,R59_r_s1_l1_l4.st]
noncomputable def f59_r_s1_l1_l4_b (k:Nat) (x0:List Bool) (x4:Int) (h0_:List T104) (h1_ h1__1:Int) : Option R59_r_s1_l1_l4 :=
 cond ((decide (x4 < ((List.length x0) : Int))))
  (
   ifE ((0:Int) ≤ x4) (
    Option.bind (x0[(Int.toNat x4)]?) fun v3 =>
     cond ((!v3))
      (f59_r_s1_l1_l4_j1 k x0 x4 true h0_ h1_ h1__1)
      (some (R59_r_s1_l1_l4.o1 x0 x4 false h0_ h1_ h1__1))))
  (some (R59_r_s1_l1_l4.o1 x0 x4 false h0_ h1_ h1__1))
theorem f59_r_s1_l1_l4_b_ok (k:Nat) (x0:List Bool) (x4:Int) (h0_:List T104) (h1_ h1__1:Int) (r:R59_r_s1_l1_l4) (hF:f59_r_s1_l1_l4_b k x0 x4 h0_ h1_ h1__1 = some r) : EX 59 k (nav B59 [1,2,1,2,2,2,2,1,2,1,2,2,2,1,2]) (⟨47,[(0,.sl 1 (rowsOf encB x0)),(3,.own 30000),(4,.p (.int .i64 x4)),(5,.ptr 30001 0)],[(30000,.row true 2 104 (rowsOf encT104 h0_)),(30001,.box 104 [.p (.int .i64 h1_),.p (.int .i64 h1__1)])]⟩ : St) = some r.st := by
 unfold f59_r_s1_l1_l4_b at hF
 simp (maxSteps:=999999) (disch:=first|exact D (by decide)|exact K (by kernel_rfl)) only [E,EE,↓reduceIte,simprocAttr,xk B59 [1,2,1,2,2,2,2,1,2,1,2,2,2,1,2] .sq rfl,xk B59 [1,1,2,1,2,2,2,2,1,2,1,2,2,2,1,2] .sq rfl,rg B59 [1,1,1,2,1,2,2,2,2,1,2,1,2,2,2,1,2] 7 false rfl,hr_59_7,t_90]
 rcases cond_some hF with ⟨h1,hF⟩ | ⟨h1,hF⟩
 ·obtain ⟨h2,hF⟩ := ifE_some.1 hF
  obtain ⟨v3,h4,hF⟩ := bs hF
  simp (maxSteps:=999999) (disch:=first|exact D (by decide)|exact K (by kernel_rfl)) only [E,EE,↓reduceIte,simprocAttr,indexAddrV,t_90,t_4,encB_eq,xk B59 [2,1,1,2,1,2,2,2,2,1,2,1,2,2,2,1,2] (.cd 34) rfl,h1,h2,h4]
  rcases cond_some hF with ⟨h5,hF⟩ | ⟨h5,hF⟩
  ·have hJ := f59_r_s1_l1_l4_j1_ok k x0 x4 true h0_ h1_ h1__1 _ hF
   simp (maxSteps:=999999) (disch:=first|exact D (by decide)|exact K (by kernel_rfl)) only [E,EE,↓reduceIte,simprocAttr,xk B59 [2,2,1,1,2,1,2,2,2,2,1,2,1,2,2,2,1,2] .sk rfl,h1,h2,h4,h5]
   try simp only [NM,EE] at hJ
   exact hJ
  ·cases hF
   simp (maxSteps:=999999) (disch:=first|exact D (by decide)|exact K (by kernel_rfl)) only [E,EE,↓reduceIte,simprocAttr,xk B59 [3,2,1,1,2,1,2,2,2,2,1,2,1,2,2,2,1,2] (.ex 4) rfl,R59_r_s1_l1_l4.st,h1,h2,h4,h5]
 ·cases hF
  simp (maxSteps:=999999) (disch:=first|exact D (by decide)|exact K (by kernel_rfl)) only [E,EE,↓reduceIte,simprocAttr,xk B59 [2,1,1,2,1,2,2,2,2,1,2,1,2,2,2,1,2] (.cd 34) rfl,xk B59 [3,2,1,1,2,1,2,2,2,2,1,2,1,2,2,2,1,2] (.ex 4) rfl,R59_r_s1_l1_l4.st,h1]
noncomputable def f59_r_s1_l1_l4 (k:Nat) : Nat → (List Bool) → Int → (List T104) → Int → Int → Option R59_r_s1_l1_l4
 | 0,_,_,_,_,_ => none
 | n + 1,x0,x4,h0_,h1_,h1__1 => Option.bind (f59_r_s1_l1_l4_b k x0 x4 h0_ h1_ h1__1) fun o =>
  match o with
  | .o0 y y_1 y_2 y_3 y_4 => f59_r_s1_l1_l4 k n y y_1 y_2 y_3 y_4
  | .o1 y y_1 y_2 y_3 y_4 y_5 => some (.o1 y y_1 y_2 y_3 y_4 y_5)
theorem f59_r_s1_l1_l4_ok (k n:Nat) : ∀ (x0:List Bool) (x4:Int) (h0_:List T104) (h1_ h1__1:Int) (r:R59_r_s1_l1_l4) (hF:f59_r_s1_l1_l4 k n x0 x4 h0_ h1_ h1__1 = some r) (σ:St) (hσ:headR (hints.head 59 7) (hints.canon 59 7) σ = some (⟨47,[(0,.sl 1 (rowsOf encB x0)),(3,.own 30000),(4,.p (.int .i64 x4)),(5,.ptr 30001 0)],[(30000,.row true 2 104 (rowsOf encT104 h0_)),(30001,.box 104 [.p (.int .i64 h1_),.p (.int .i64 h1__1)])]⟩ : St)),LP 59 k (nav B59 [1,2,1,2,2,2,2,1,2,1,2,2,2,1,2]) n σ = some r.st := by
 induction n with
 | zero => intro x0 x4 h0_ h1_ h1__1 r hF; cases hF
 | succ n ih =>
  intro x0 x4 h0_ h1_ h1__1 r hF σ hσ
  rw [f59_r_s1_l1_l4] at hF
  obtain ⟨o,h,hF⟩ := Option.bind_eq_some_iff.1 hF
  have hB := f59_r_s1_l1_l4_b_ok k x0 x4 h0_ h1_ h1__1 o h
  unfold LP at ih ⊢
  unfold EX at hB
  rw [loopK_succ,show firstReg (nav B59 [1,2,1,2,2,2,2,1,2,1,2,2,2,1,2]) = 7 from rfl,hσ,headK_some,hB]
  cases o with
  | o0 y y_1 y_2 y_3 y_4 =>
   refine ih y y_1 y_2 y_3 y_4 r hF _ ?_
   simp (maxSteps:=999999) (disch:=first|exact D (by decide)|exact K (by kernel_rfl)) only [E,EE,↓reduceIte,simprocAttr,hh_59_7,hc_59_7]
  | o1 y y_1 y_2 y_3 y_4 y_5 => cases hF; rfl
inductive R59_r_s1_l1 where
 | o0 (y:List Bool) (y_1:Int) (y_2:Bool) (y_3:List T104)
 | o1 (y:List Bool) (y_1:Int) (y_2:List T104)
noncomputable def R59_r_s1_l1.st : R59_r_s1_l1 → Out × St
 | .o0 y y_1 y_2 y_3 => (.exit 0,(⟨47,[(0,.sl 1 (rowsOf encB y)),(3,.own 30000),(4,.p (.int .i64 y_1)),(21,.p (.bool y_2))],[(30000,.row true 2 104 (rowsOf encT104 y_3))]⟩ : St))
 | .o1 y y_1 y_2 => (.norm,(⟨47,[(0,.sl 1 (rowsOf encB y)),(3,.own 45),(4,.p (.int .i64 y_1))],[(45,.row true 2 104 (rowsOf encT104 y_2))]⟩ : St))
noncomputable def f59_r_s1_l1_j5 (k:Nat) (x0:List Bool) (x4:Int) (x34:Bool) (h0_:List T104) (h1_ h1__1:Int) : Option R59_r_s1_l1 :=
 ifE (((List.length h0_) + 1) * 16 ≤ roomy) (
  some (R59_r_s1_l1.o1 x0 x4 (h0_ ++ ([(T104.mk h1_ (IntKind.i64.wrap (x4 - h1_)))] : List T104))))
theorem f59_r_s1_l1_j5_ok (k:Nat) (x0:List Bool) (x4:Int) (x34:Bool) (h0_:List T104) (h1_ h1__1:Int) (r:R59_r_s1_l1) (hF:f59_r_s1_l1_j5 k x0 x4 x34 h0_ h1_ h1__1 = some r) : blockK 1 (EX 59 k (nav B59 [2,2,2,2,2,1,2,1,2,2,2,1,2]) (⟨47,[(0,.sl 1 (rowsOf encB x0)),(3,.own 30000),(4,.p (.int .i64 x4)),(5,.ptr 30001 0),(34,.p (.bool x34))],[(30000,.row true 2 104 (rowsOf encT104 h0_)),(30001,.box 104 [.p (.int .i64 h1_),.p (.int .i64 h1__1)])]⟩ : St)) = some r.st := by
 unfold f59_r_s1_l1_j5 at hF
 have q1 : [[.p (.int .i64 h1_),.p (.int .i64 (IntKind.i64.wrap (x4 - h1_)))]] = rowsOf encT104 ([(T104.mk h1_ (IntKind.i64.wrap (x4 - h1_)))] : List T104) := rfl
 have q2 : List.map (tell [0,0]) (rowsOf encT104 ([(T104.mk h1_ (IntKind.i64.wrap (x4 - h1_)))] : List T104)) = rowsOf encT104 ([(T104.mk h1_ (IntKind.i64.wrap (x4 - h1_)))] : List T104) := rfl
 obtain ⟨h3,hF⟩ := ifE_some.1 hF
 cases hF
 simp (maxSteps:=999999) (disch:=first|exact D (by decide)|exact K (by kernel_rfl)) only [E,EE,↓reduceIte,simprocAttr,xk B59 [2,2,2,2,2,1,2,1,2,2,2,1,2] .sq rfl,rg B59 [1,2,2,2,2,2,1,2,1,2,2,2,1,2] 9 false rfl,hr_59_9,fieldAddrV,t_104,t_3,rg B59 [2,2,2,2,2,2,1,2,1,2,2,2,1,2] 10 false rfl,hr_59_10,buildSliceV,fillRows,sm_104,t_74,appendV,content,R59_r_s1_l1.st,q1,q2,h3]
noncomputable def f59_r_s1_l1_j3 (k:Nat) (x0:List Bool) (x4:Int) (x21:Bool) (h0_:List T104) : Option R59_r_s1_l1 :=
 Option.bind (f59_r_s1_l1_l4 k k x0 x4 h0_ x4 0) fun o1 =>
  match o1 with
  | .o0 _ _ _ _ _ =>
   none
  | .o1 v4 v5 v6 v7 v8 v9 =>
   f59_r_s1_l1_j5 k v4 v5 v6 v7 v8 v9
theorem f59_r_s1_l1_j3_ok (k:Nat) (x0:List Bool) (x4:Int) (x21:Bool) (h0_:List T104) (r:R59_r_s1_l1) (hF:f59_r_s1_l1_j3 k x0 x4 x21 h0_ = some r) : blockK 1 (EX 59 k (nav B59 [2,2,2,1,2,1,2,2,2,1,2]) (⟨47,[(0,.sl 1 (rowsOf encB x0)),(3,.own 30000),(4,.p (.int .i64 x4)),(21,.p (.bool x21))],[(30000,.row true 2 104 (rowsOf encT104 h0_))]⟩ : St)) = some r.st := by
 unfold f59_r_s1_l1_j3 at hF
 obtain ⟨o1,h2,hF⟩ := bs hF
 have hc3 := f59_r_s1_l1_l4_ok k k x0 x4 h0_ x4 0 _ h2
 simp (maxSteps:=999999) (disch:=first|exact D (by decide)|exact K (by kernel_rfl)) only [E,EE,↓reduceIte,simprocAttr,xk B59 [2,2,2,1,2,1,2,2,2,1,2] .sq rfl,rg B59 [1,2,2,2,1,2,1,2,2,2,1,2] 6 false rfl,hr_59_6,bl_104,t_104,xk B59 [2,2,2,2,1,2,1,2,2,2,1,2] .sq rfl,xk B59 [1,2,2,2,2,1,2,1,2,2,2,1,2] (.bk 4) rfl,xk B59 [2,1,2,2,2,2,1,2,1,2,2,2,1,2] .lp rfl,hh_59_7,hc_59_7]
 (try simp only [NM,EE] at hc3)
 rw [hc3 _ (by simp (maxSteps:=999999) (disch:=first|exact D (by decide)|exact K (by kernel_rfl)) only [E,EE,↓reduceIte,simprocAttr,hh_59_7,hc_59_7])]
 clear hc3
 cases o1 with
 | o0 _ _ _ _ _ =>
  (try dsimp only at hF)
  cases hF
 | o1 v4 v5 v6 v7 v8 v9 =>
  (try dsimp only at hF)
  have hJ := f59_r_s1_l1_j5_ok k v4 v5 v6 v7 v8 v9 _ hF
  simp (maxSteps:=999999) (disch:=first|exact D (by decide)|exact K (by kernel_rfl)) only [E,EE,↓reduceIte,simprocAttr,R59_r_s1_l1_l4.st]
  try simp only [NM,EE] at hJ
  exact hJ
noncomputable def f59_r_s1_l1_j2 (k:Nat) (x0:List Bool) (x4:Int) (x15:Bool) (h0_:List T104) : Option R59_r_s1_l1 :=
 cond ((x4 == ((List.length x0) : Int)))
  (some (R59_r_s1_l1.o0 x0 x4 true h0_))
  (f59_r_s1_l1_j3 k x0 x4 false h0_)
theorem f59_r_s1_l1_j2_ok (k:Nat) (x0:List Bool) (x4:Int) (x15:Bool) (h0_:List T104) (r:R59_r_s1_l1) (hF:f59_r_s1_l1_j2 k x0 x4 x15 h0_ = some r) : blockK 1 (EX 59 k (nav B59 [2,2,1,2,1,2,2,2,1,2]) (⟨47,[(0,.sl 1 (rowsOf encB x0)),(3,.own 30000),(4,.p (.int .i64 x4)),(15,.p (.bool x15))],[(30000,.row true 2 104 (rowsOf encT104 h0_))]⟩ : St)) = some r.st := by
 unfold f59_r_s1_l1_j2 at hF
 simp (maxSteps:=999999) (disch:=first|exact D (by decide)|exact K (by kernel_rfl)) only [E,EE,↓reduceIte,simprocAttr,xk B59 [2,2,1,2,1,2,2,2,1,2] .sq rfl,xk B59 [1,2,2,1,2,1,2,2,2,1,2] .sq rfl,rg B59 [1,1,2,2,1,2,1,2,2,2,1,2] 5 false rfl,hr_59_5,t_90,xk B59 [2,1,2,2,1,2,1,2,2,2,1,2] (.cd 21) rfl]
 rcases cond_some hF with ⟨h1,hF⟩ | ⟨h1,hF⟩
 ·cases hF
  simp (maxSteps:=999999) (disch:=first|exact D (by decide)|exact K (by kernel_rfl)) only [E,EE,↓reduceIte,simprocAttr,xk B59 [2,2,1,2,2,1,2,1,2,2,2,1,2] (.ex 0) rfl,R59_r_s1_l1.st,h1]
 ·have hJ := f59_r_s1_l1_j3_ok k x0 x4 false h0_ _ hF
  simp (maxSteps:=999999) (disch:=first|exact D (by decide)|exact K (by kernel_rfl)) only [E,EE,↓reduceIte,simprocAttr,xk B59 [3,2,1,2,2,1,2,1,2,2,2,1,2] .sk rfl,h1]
  try simp only [NM,EE] at hJ
  exact hJ
noncomputable def f59_r_s1_l1_b (k:Nat) (x0:List Bool) (x4:Int) (h0_:List T104) : Option R59_r_s1_l1 :=
 Option.bind (f59_r_s1_l1_l1 k k x0 x4 h0_) fun o1 =>
  match o1 with
  | .o0 _ _ _ =>
   none
  | .o1 v4 v5 v6 v7 =>
   f59_r_s1_l1_j2 k v4 v5 v6 v7
theorem f59_r_s1_l1_b_ok (k:Nat) (x0:List Bool) (x4:Int) (h0_:List T104) (r:R59_r_s1_l1) (hF:f59_r_s1_l1_b k x0 x4 h0_ = some r) : EX 59 k (nav B59 [1,2,1,2,2,2,1,2]) (⟨47,[(0,.sl 1 (rowsOf encB x0)),(3,.own 30000),(4,.p (.int .i64 x4))],[(30000,.row true 2 104 (rowsOf encT104 h0_))]⟩ : St) = some r.st := by
 unfold f59_r_s1_l1_b at hF
 obtain ⟨o1,h2,hF⟩ := bs hF
 have hc3 := f59_r_s1_l1_l1_ok k k x0 x4 h0_ _ h2
 simp (maxSteps:=999999) (disch:=first|exact D (by decide)|exact K (by kernel_rfl)) only [E,EE,↓reduceIte,simprocAttr,xk B59 [1,2,1,2,2,2,1,2] (.bk 1) rfl,xk B59 [2,1,2,1,2,2,2,1,2] .sq rfl,xk B59 [1,2,1,2,1,2,2,2,1,2] (.bk 2) rfl,xk B59 [2,1,2,1,2,1,2,2,2,1,2] .lp rfl,hh_59_3,hc_59_3]
 (try simp only [NM,EE] at hc3)
 rw [hc3 _ (by simp (maxSteps:=999999) (disch:=first|exact D (by decide)|exact K (by kernel_rfl)) only [E,EE,↓reduceIte,simprocAttr,hh_59_3,hc_59_3])]
 clear hc3
 cases o1 with
 | o0 _ _ _ =>
  (try dsimp only at hF)
  cases hF
 | o1 v4 v5 v6 v7 =>
  (try dsimp only at hF)
  have hJ := f59_r_s1_l1_j2_ok k v4 v5 v6 v7 _ hF
  simp (maxSteps:=999999) (disch:=first|exact D (by decide)|exact K (by kernel_rfl)) only [E,EE,↓reduceIte,simprocAttr,R59_r_s1_l1_l1.st]
  try simp only [NM,EE] at hJ
  exact hJ
noncomputable def f59_r_s1_l1 (k:Nat) : Nat → (List Bool) → Int → (List T104) → Option R59_r_s1_l1
 | 0,_,_,_ => none
 | n + 1,x0,x4,h0_ => Option.bind (f59_r_s1_l1_b k x0 x4 h0_) fun o =>
  match o with
  | .o0 y y_1 y_2 y_3 => some (.o0 y y_1 y_2 y_3)
  | .o1 y y_1 y_2 => f59_r_s1_l1 k n y y_1 y_2
theorem f59_r_s1_l1_ok (k n:Nat) : ∀ (x0:List Bool) (x4:Int) (h0_:List T104) (r:R59_r_s1_l1) (hF:f59_r_s1_l1 k n x0 x4 h0_ = some r) (σ:St) (hσ:headR (hints.head 59 3) (hints.canon 59 3) σ = some (⟨47,[(0,.sl 1 (rowsOf encB x0)),(3,.own 30000),(4,.p (.int .i64 x4))],[(30000,.row true 2 104 (rowsOf encT104 h0_))]⟩ : St)),LP 59 k (nav B59 [1,2,1,2,2,2,1,2]) n σ = some r.st := by
 induction n with
 | zero => intro x0 x4 h0_ r hF; cases hF
 | succ n ih =>
  intro x0 x4 h0_ r hF σ hσ
  rw [f59_r_s1_l1] at hF
  obtain ⟨o,h,hF⟩ := Option.bind_eq_some_iff.1 hF
  have hB := f59_r_s1_l1_b_ok k x0 x4 h0_ o h
  unfold LP at ih ⊢
  unfold EX at hB
  rw [loopK_succ,show firstReg (nav B59 [1,2,1,2,2,2,1,2]) = 3 from rfl,hσ,headK_some,hB]
  cases o with
  | o0 y y_1 y_2 y_3 => cases hF; rfl
  | o1 y y_1 y_2 =>
   refine ih y y_1 y_2 r hF _ ?_
   simp (maxSteps:=999999) (disch:=first|exact D (by decide)|exact K (by kernel_rfl)) only [E,EE,↓reduceIte,simprocAttr,hh_59_3,hc_59_3]
inductive R59_r_s1 where
 | o0 (y:List T104)
noncomputable def R59_r_s1.st : R59_r_s1 → Out × St
 | .o0 y => (.ret,(⟨47,[(2,.own 30000)],[(30000,.row true 2 104 (rowsOf encT104 y))]⟩ : St))
noncomputable def f59_r_s1_j2 (k:Nat) (x0:List Bool) (x4:Int) (x21:Bool) (h0_:List T104) : Option R59_r_s1 :=
 some (R59_r_s1.o0 h0_)
theorem f59_r_s1_j2_ok (k:Nat) (x0:List Bool) (x4:Int) (x21:Bool) (h0_:List T104) (r:R59_r_s1) (hF:f59_r_s1_j2 k x0 x4 x21 h0_ = some r) : EX 59 k (nav B59 [2,2,2,2,1,2]) (⟨47,[(0,.sl 1 (rowsOf encB x0)),(3,.own 30000),(4,.p (.int .i64 x4)),(21,.p (.bool x21))],[(30000,.row true 2 104 (rowsOf encT104 h0_))]⟩ : St) = some r.st := by
 unfold f59_r_s1_j2 at hF
 cases hF
 simp (maxSteps:=999999) (disch:=first|exact D (by decide)|exact K (by kernel_rfl)) only [E,EE,↓reduceIte,simprocAttr,xk B59 [2,2,2,2,1,2] .sq rfl,rg B59 [1,2,2,2,2,1,2] 11 false rfl,hr_59_11,xk B59 [2,2,2,2,2,1,2] .rt rfl,R59_r_s1.st]
noncomputable def f59_r_s1_b (k:Nat) (x0:List Bool) : Option R59_r_s1 :=
 Option.bind (f59_r_s1_l1 k k x0 0 []) fun o1 =>
  match o1 with
  | .o0 v4 v5 v6 v7 =>
   f59_r_s1_j2 k v4 v5 v6 v7
  | .o1 _ _ _ =>
   none
theorem f59_r_s1_b_ok (k:Nat) (x0:List Bool) (r:R59_r_s1) (hF:f59_r_s1_b k x0 = some r) : EX 59 k (nav B59 [1,2]) (⟨47,[(0,.sl 1 (rowsOf encB x0))],[]⟩ : St) = some r.st := by
 unfold f59_r_s1_b at hF
 obtain ⟨o1,h2,hF⟩ := bs hF
 have hc3 := f59_r_s1_l1_ok k k x0 0 [] _ h2
 simp (maxSteps:=999999) (disch:=first|exact D (by decide)|exact K (by kernel_rfl)) only [E,EE,↓reduceIte,simprocAttr,xk B59 [1,2] .sq rfl,rg B59 [1,1,2] 1 false rfl,hr_59_1,xk B59 [2,1,2] .sq rfl,rg B59 [1,2,1,2] 2 false rfl,hr_59_2,xk B59 [2,2,1,2] .sq rfl,xk B59 [1,2,2,1,2] (.lb 0) rfl,xk B59 [2,2,2,1,2] .sq rfl,xk B59 [1,2,2,2,1,2] (.bk 0) rfl,xk B59 [2,1,2,2,2,1,2] .lp rfl,hh_59_3,hc_59_3]
 (try simp only [NM,EE] at hc3)
 rw [hc3 _ (by simp (maxSteps:=999999) (disch:=first|exact D (by decide)|exact K (by kernel_rfl)) only [E,EE,↓reduceIte,simprocAttr,hh_59_3,hc_59_3])]
 clear hc3
 cases o1 with
 | o0 v4 v5 v6 v7 =>
  (try dsimp only at hF)
  have hJ := f59_r_s1_j2_ok k v4 v5 v6 v7 _ hF
  simp (maxSteps:=999999) (disch:=first|exact D (by decide)|exact K (by kernel_rfl)) only [E,EE,↓reduceIte,simprocAttr,R59_r_s1_l1.st]
  try simp only [NM,EE] at hJ
  exact hJ
 | o1 _ _ _ =>
  (try dsimp only at hF)
  cases hF
noncomputable def f59_r_s1 (k:Nat) (x0:List Bool) : Option R59_r_s1 := Option.bind (f59_r_s1_b k x0) fun o =>
 match o with
 | .o0 y => some (.o0 y)
theorem f59_r_s1_ok (k:Nat) (x0:List Bool) (r:R59_r_s1) (hF:f59_r_s1 k x0 = some r) : EX 59 k (nav B59 [2]) (⟨47,[(0,.sl 1 (rowsOf encB x0))],[]⟩ : St) = some r.st := by
 unfold f59_r_s1 at hF
 obtain ⟨o,h,hF⟩ := Option.bind_eq_some_iff.1 hF
 unfold EX
 rw [show (nav B59 [2]) = Code.scope (nav B59 [1,2]) from rfl,ev_scope,(show exec _ _ _ _ _ _ _ _ = _ from f59_r_s1_b_ok k x0 o h)]
 cases o with
 | o0 y => cases hF; simp only [R59_r_s1.st,jumpsK_norm,jumpsK_ret,jumpsK_exit]
noncomputable def f59_r_e (k:Nat) (a0:List Bool) : Option R59_r :=
 Option.bind (f59_r_s1 k a0) fun o1 =>
  match o1 with
  | .o0 v4 =>
   some (R59_r.o0 v4)
theorem f59_r_e_ok (k:Nat) (a0:List Bool) (r:R59_r) (hF:f59_r_e k a0 = some r) : finK Try.prog Try.f59 0 (EX 59 k (nav B59 []) (⟨47,[(0,.sl 1 (rowsOf encB a0))],[]⟩ : St)) = some r.st := by
 unfold f59_r_e at hF
 simp (maxSteps:=999999) (disch:=first|exact D (by decide)|exact K (by kernel_rfl)) only [E,EE,↓reduceIte,simprocAttr,xk B59 [] .sq rfl,rg B59 [1] 0 false rfl,hr_59_0]
 obtain ⟨o1,h2,hF⟩ := bs hF
 have hc3 := f59_r_s1_ok k a0 _ h2
 cases o1 with
 | o0 v4 =>
  (try dsimp only at hF)
  (try simp only [NM,EE,R59_r_s1.st] at hc3)
  cases hF
  simp (maxSteps:=999999) (disch:=first|exact D (by decide)|exact K (by kernel_rfl)) only [E,EE,↓reduceIte,simprocAttr,R59_r_s1.st,finK_norm,finK_ret,fin59,R59_r.st,hc3]
noncomputable def f59_r (k:Nat) (a0:List Bool) : Option R59_r := match k with | 0 => none | k + 1 => f59_r_e k a0
theorem f59_r_ok (k:Nat) (a0:List Bool) (r:R59_r) (hF:f59_r k a0 = some r) : CV k 59 [.sl 1 (rowsOf encB a0)] [] = some r.st := by
 cases k with
 | zero => cases hF
 | succ k =>
  unfold CV
  rw [ev_call (F := Try.f59) (c := (nav B59 [])) rfl Try.func59 rfl rfl rfl rfl]
  exact f59_r_e_ok k a0 r hF
-- f35_r: f35 heliograph/pieces.Missing
inductive R35_r where
 | o0 (y:Int) (y_1:List T104)
noncomputable def R35_r.st : R35_r → V × List O × List O
 | .o0 y y_1 => (V.tup [.own 2000000,.p (.int .i64 y)],[],[.row true 2 104 (rowsOf encT104 y_1)])
noncomputable def f35_r_e (k:Nat) (a0:List T39) : Option R35_r :=
 Option.bind (f58_r k a0) fun o1 =>
  match o1 with
  | .o0 v4 v5 v6 =>
   Option.bind (f59_r k v4) fun o7 =>
    match o7 with
    | .o0 v10 =>
     some (R35_r.o0 v6 v10)
  | .o1 v11 v12 v13 =>
   Option.bind (f59_r k v12) fun o14 =>
    match o14 with
    | .o0 v17 =>
     some (R35_r.o0 v11 v17)
theorem f35_r_e_ok (k:Nat) (a0:List T39) (r:R35_r) (hF:f35_r_e k a0 = some r) : finK Try.prog Try.f35 0 (EX 35 k (nav B35 []) (⟨16,[(0,.sl 11 (rowsOf encT39 a0))],[]⟩ : St)) = some r.st := by
 unfold f35_r_e at hF
 simp (maxSteps:=999999) (disch:=first|exact D (by decide)|exact K (by kernel_rfl)) only [E,EE,↓reduceIte,simprocAttr,xk B35 [] .sq rfl,rg B35 [1] 0 false rfl,hr_35_0,xk B35 [2] .sq rfl,rg B35 [1,2] 1 false rfl,hr_35_1,callStep,CL,gv,List.contains]
 obtain ⟨o1,h2,hF⟩ := bs hF
 have hc3 := f58_r_ok k a0 _ h2
 cases o1 with
 | o0 v4 v5 v6 =>
  (try dsimp only at hF)
  (try simp only [NM,EE,R58_r.st] at hc3)
  obtain ⟨o7,h8,hF⟩ := bs hF
  have hc9 := f59_r_ok k v4 _ h8
  cases o7 with
  | o0 v10 =>
   (try dsimp only at hF)
   (try simp only [NM,EE,R59_r.st] at hc9)
   cases hF
   simp (maxSteps:=999999) (disch:=first|exact D (by decide)|exact K (by kernel_rfl)) only [E,EE,↓reduceIte,simprocAttr,xk B35 [2,2] .sq rfl,rg B35 [1,2,2] 2 false rfl,hr_35_2,callStep,CL,gv,List.contains,xk B35 [2,2,2] .rt rfl,finK_norm,finK_ret,fin35,R35_r.st,hc3,hc9]
 | o1 v11 v12 v13 =>
  (try dsimp only at hF)
  (try simp only [NM,EE,R58_r.st] at hc3)
  obtain ⟨o14,h15,hF⟩ := bs hF
  have hc16 := f59_r_ok k v12 _ h15
  cases o14 with
  | o0 v17 =>
   (try dsimp only at hF)
   (try simp only [NM,EE,R59_r.st] at hc16)
   cases hF
   simp (maxSteps:=999999) (disch:=first|exact D (by decide)|exact K (by kernel_rfl)) only [E,EE,↓reduceIte,simprocAttr,xk B35 [2,2] .sq rfl,rg B35 [1,2,2] 2 false rfl,hr_35_2,callStep,CL,gv,List.contains,xk B35 [2,2,2] .rt rfl,finK_norm,finK_ret,fin35,R35_r.st,hc3,hc16]
noncomputable def f35_r (k:Nat) (a0:List T39) : Option R35_r := match k with | 0 => none | k + 1 => f35_r_e k a0
theorem f35_r_ok (k:Nat) (a0:List T39) (r:R35_r) (hF:f35_r k a0 = some r) : CV k 35 [.sl 11 (rowsOf encT39 a0)] [] = some r.st := by
 cases k with
 | zero => cases hF
 | succ k =>
  unfold CV
  rw [ev_call (F := Try.f35) (c := (nav B35 [])) rfl Try.func35 rfl rfl rfl rfl]
  exact f35_r_e_ok k a0 r hF
end Go.Proofs.YticggdfaehneeaaV