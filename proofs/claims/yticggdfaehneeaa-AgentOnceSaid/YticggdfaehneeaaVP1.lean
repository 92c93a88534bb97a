/- What the program's functions answer: plain functions,and that the interpreter answers what they do. Written by a program of this session,out of the translation. -/
import Derived.Test.YticggdfaehneeaaVPC
namespace Go.Proofs.YticggdfaehneeaaV
open Go
set_option linter.unusedVariables false
set_option linter.unusedSimpArgs false
set_option maxRecDepth 8000
set_option maxHeartbeats 4000000
-- f7_: f7 heliograph/heliographlaw19.wakes
inductive R7_ where
 | o0 (y:Bool)
noncomputable def R7_.st : R7_ → V × List O × List O
 | .o0 y => (.p (.bool y),[],[])
noncomputable def f7_ (k:Nat) : Option R7_ := ifE (200 ≤ k) (some (.o0 true))
theorem f7__ok (k:Nat) (r:R7_) (hF:f7_ k = some r) : CV k 7 [] [] = some r.st := by
 obtain ⟨h,hF⟩ := ifE_some.1 hF
 cases hF
 exact callV_le h wakes
-- f8_aiirrzr: f8 heliograph/heliographlaw19.large
inductive R8_aiirrzr where
 | o0 (y:Bool)
noncomputable def R8_aiirrzr.st : R8_aiirrzr → V × List O × List O
 | .o0 y => (.p (.bool y),[],[])
inductive R8_aiirrzr_l2 where
 | o0 (y:Bool)
 | o1 (y y_1:Int) (y_2:List T39)
 | o2 (y y_1:Int) (y_2:Bool) (y_3:List T39)
noncomputable def R8_aiirrzr_l2.st : R8_aiirrzr_l2 → Out × St
 | .o0 y => (.ret,(⟨33,[(4,.p (.bool y))],[]⟩ : St))
 | .o1 y y_1 y_2 => (.norm,(⟨33,[(22,.own 30000),(23,.p (.int .i64 y)),(24,.p (.int .i64 y_1))],[(30000,.row true 11 39 (rowsOf encT39 y_2))]⟩ : St))
 | .o2 y y_1 y_2 y_3 => (.exit 0,(⟨33,[(22,.own 30000),(23,.p (.int .i64 y)),(24,.p (.int .i64 y_1)),(25,.p (.bool y_2))],[(30000,.row true 11 39 (rowsOf encT39 y_3))]⟩ : St))
noncomputable def f8_aiirrzr_l2_j2 (k:Nat) (x23 x24:Int) (x31:Bool) (h0_:List T39) : Option R8_aiirrzr_l2 :=
 some (R8_aiirrzr_l2.o1 x23 (IntKind.i64.wrap (x24 + (1:Int))) h0_)
theorem f8_aiirrzr_l2_j2_ok (k:Nat) (x23 x24:Int) (x31:Bool) (h0_:List T39) (r:R8_aiirrzr_l2) (hF:f8_aiirrzr_l2_j2 k x23 x24 x31 h0_ = some r) : EX 8 k (nav B8 [2,2,2,1,2,2,1,2,2]) (⟨33,[(22,.own 30000),(23,.p (.int .i64 x23)),(24,.p (.int .i64 x24)),(31,.p (.bool x31))],[(30000,.row true 11 39 (rowsOf encT39 h0_))]⟩ : St) = some r.st := by
 unfold f8_aiirrzr_l2_j2 at hF
 cases hF
 simp (maxSteps:=999999) (disch:=first|exact D (by decide)|exact K (by kernel_rfl)) only [E,EE,↓reduceIte,simprocAttr,rg B8 [2,2,2,1,2,2,1,2,2] 8 false rfl,hr_8_8,R8_aiirrzr_l2.st]
noncomputable def f8_aiirrzr_l2_j1 (k:Nat) (x23 x24:Int) (x25:Bool) (h0_:List T39) : Option R8_aiirrzr_l2 :=
 ifE ((0:Int) ≤ x24) (
  ifE (x24 < ((List.length h0_) : Int)) (
   Option.bind (h0_[(Int.toNat x24)]?) fun v3 =>
    cond ((decide (((List.length v3.Payload) : Int) > 3000)))
     (some (R8_aiirrzr_l2.o0 true))
     (f8_aiirrzr_l2_j2 k x23 x24 false h0_)))
theorem f8_aiirrzr_l2_j1_ok (k:Nat) (x23 x24:Int) (x25:Bool) (h0_:List T39) (r:R8_aiirrzr_l2) (hF:f8_aiirrzr_l2_j1 k x23 x24 x25 h0_ = some r) : EX 8 k (nav B8 [2,2,1,2,2,1,2,2]) (⟨33,[(22,.own 30000),(23,.p (.int .i64 x23)),(24,.p (.int .i64 x24)),(25,.p (.bool x25))],[(30000,.row true 11 39 (rowsOf encT39 h0_))]⟩ : St) = some r.st := by
 unfold f8_aiirrzr_l2_j1 at hF
 obtain ⟨h1,hF⟩ := ifE_some.1 hF
 obtain ⟨h2,hF⟩ := ifE_some.1 hF
 obtain ⟨v3,h4,hF⟩ := bs hF
 simp (maxSteps:=999999) (disch:=first|exact D (by decide)|exact K (by kernel_rfl)) only [E,EE,↓reduceIte,simprocAttr,xk B8 [2,2,1,2,2,1,2,2] .sq rfl,xk B8 [1,2,2,1,2,2,1,2,2] (.bk 1) rfl,xk B8 [2,1,2,2,1,2,2,1,2,2] .sq rfl,rg B8 [1,2,1,2,2,1,2,2,1,2,2] 5 false rfl,hr_8_5,indexAddrV,t_24,t_39,encT39_eq,xk B8 [2,2,1,2,2,1,2,2,1,2,2] .sq rfl,rg B8 [1,2,2,1,2,2,1,2,2,1,2,2] 6 false rfl,hr_8_6,fieldAddrV,t_29,xk B8 [2,2,2,1,2,2,1,2,2,1,2,2] (.cd 31) rfl,h1,h2,h4]
 rcases cond_some hF with ⟨h5,hF⟩ | ⟨h5,hF⟩
 ·cases hF
  simp (maxSteps:=999999) (disch:=first|exact D (by decide)|exact K (by kernel_rfl)) only [E,EE,↓reduceIte,simprocAttr,xk B8 [2,2,2,2,1,2,2,1,2,2,1,2,2] .sq rfl,rg B8 [1,2,2,2,2,1,2,2,1,2,2,1,2,2] 7 false rfl,hr_8_7,xk B8 [2,2,2,2,2,1,2,2,1,2,2,1,2,2] .rt rfl,R8_aiirrzr_l2.st,h1,h2,h4,h5]
 ·have hJ := f8_aiirrzr_l2_j2_ok k x23 x24 false h0_ _ hF
  simp (maxSteps:=999999) (disch:=first|exact D (by decide)|exact K (by kernel_rfl)) only [E,EE,↓reduceIte,simprocAttr,xk B8 [3,2,2,2,1,2,2,1,2,2,1,2,2] .sk rfl,h1,h2,h4,h5]
  try simp only [NM,EE] at hJ
  exact hJ
noncomputable def f8_aiirrzr_l2_b (k:Nat) (x23 x24:Int) (h0_:List T39) : Option R8_aiirrzr_l2 :=
 cond ((decide (x24 < x23)))
  (f8_aiirrzr_l2_j1 k x23 x24 true h0_)
  (some (R8_aiirrzr_l2.o2 x23 x24 false h0_))
theorem f8_aiirrzr_l2_b_ok (k:Nat) (x23 x24:Int) (h0_:List T39) (r:R8_aiirrzr_l2) (hF:f8_aiirrzr_l2_b k x23 x24 h0_ = some r) : EX 8 k (nav B8 [1,2,2,1,2,2]) (⟨33,[(22,.own 30000),(23,.p (.int .i64 x23)),(24,.p (.int .i64 x24))],[(30000,.row true 11 39 (rowsOf encT39 h0_))]⟩ : St) = some r.st := by
 unfold f8_aiirrzr_l2_b at hF
 simp (maxSteps:=999999) (disch:=first|exact D (by decide)|exact K (by kernel_rfl)) only [E,EE,↓reduceIte,simprocAttr,xk B8 [1,2,2,1,2,2] .sq rfl,rg B8 [1,1,2,2,1,2,2] 4 false rfl,hr_8_4,xk B8 [2,1,2,2,1,2,2] .sq rfl,xk B8 [1,2,1,2,2,1,2,2] (.cd 25) rfl]
 rcases cond_some hF with ⟨h1,hF⟩ | ⟨h1,hF⟩
 ·have hJ := f8_aiirrzr_l2_j1_ok k x23 x24 true h0_ _ hF
  simp (maxSteps:=999999) (disch:=first|exact D (by decide)|exact K (by kernel_rfl)) only [E,EE,↓reduceIte,simprocAttr,xk B8 [2,1,2,1,2,2,1,2,2] .sk rfl,h1]
  try simp only [NM,EE] at hJ
  exact hJ
 ·cases hF
  simp (maxSteps:=999999) (disch:=first|exact D (by decide)|exact K (by kernel_rfl)) only [E,EE,↓reduceIte,simprocAttr,xk B8 [3,1,2,1,2,2,1,2,2] (.ex 0) rfl,R8_aiirrzr_l2.st,h1]
noncomputable def f8_aiirrzr_l2 (k:Nat) : Nat → Int → Int → (List T39) → Option R8_aiirrzr_l2
 | 0,_,_,_ => none
 | n + 1,x23,x24,h0_ => Option.bind (f8_aiirrzr_l2_b k x23 x24 h0_) fun o =>
  match o with
  | .o0 y => some (.o0 y)
  | .o1 y y_1 y_2 => f8_aiirrzr_l2 k n y y_1 y_2
  | .o2 y y_1 y_2 y_3 => some (.o2 y y_1 y_2 y_3)
theorem f8_aiirrzr_l2_ok (k n:Nat) : ∀ (x23 x24:Int) (h0_:List T39) (r:R8_aiirrzr_l2) (hF:f8_aiirrzr_l2 k n x23 x24 h0_ = some r) (σ:St) (hσ:headR (hints.head 8 4) (hints.canon 8 4) σ = some (⟨33,[(22,.own 30000),(23,.p (.int .i64 x23)),(24,.p (.int .i64 x24))],[(30000,.row true 11 39 (rowsOf encT39 h0_))]⟩ : St)),LP 8 k (nav B8 [1,2,2,1,2,2]) n σ = some r.st := by
 induction n with
 | zero => intro x23 x24 h0_ r hF; cases hF
 | succ n ih =>
  intro x23 x24 h0_ r hF σ hσ
  rw [f8_aiirrzr_l2] at hF
  obtain ⟨o,h,hF⟩ := Option.bind_eq_some_iff.1 hF
  have hB := f8_aiirrzr_l2_b_ok k x23 x24 h0_ o h
  unfold LP at ih ⊢
  unfold EX at hB
  rw [loopK_succ,show firstReg (nav B8 [1,2,2,1,2,2]) = 4 from rfl,hσ,headK_some,hB]
  cases o with
  | o0 y => cases hF; rfl
  | o1 y y_1 y_2 =>
   refine ih y y_1 y_2 r hF _ ?_
   simp (maxSteps:=999999) (disch:=first|exact D (by decide)|exact K (by kernel_rfl)) only [E,EE,↓reduceIte,simprocAttr,hh_8_4,hc_8_4]
  | o2 y y_1 y_2 y_3 => cases hF; rfl
noncomputable def f8_aiirrzr_j3 (k:Nat) (x23 x24:Int) (x25:Bool) (h0_:List T39) : Option R8_aiirrzr :=
 some (R8_aiirrzr.o0 false)
theorem f8_aiirrzr_j3_ok (k:Nat) (x23 x24:Int) (x25:Bool) (h0_:List T39) (r:R8_aiirrzr) (hF:f8_aiirrzr_j3 k x23 x24 x25 h0_ = some r) : finK Try.prog Try.f8 0 (EX 8 k (nav B8 [2,2,2]) (⟨33,[(22,.own 30000),(23,.p (.int .i64 x23)),(24,.p (.int .i64 x24)),(25,.p (.bool x25))],[(30000,.row true 11 39 (rowsOf encT39 h0_))]⟩ : St)) = some r.st := by
 unfold f8_aiirrzr_j3 at hF
 cases hF
 simp (maxSteps:=999999) (disch:=first|exact D (by decide)|exact K (by kernel_rfl)) only [E,EE,↓reduceIte,simprocAttr,xk B8 [2,2,2] .sq rfl,rg B8 [1,2,2,2] 9 false rfl,hr_8_9,xk B8 [2,2,2,2] .rt rfl,finK_norm,finK_ret,fin8,R8_aiirrzr.st]
noncomputable def f8_aiirrzr_j1 (k:Nat) (x1:List T39) (x16:Bool) (m2 m2_1:Int) (m2_2:List T65) (m2_3:List T39) : Option R8_aiirrzr :=
 ifE ((List.length m2_3) * 104 ≤ roomy) (
  ifE (((List.length m2_3) + (List.length x1)) * 104 ≤ roomy) (
   Option.bind (f8_aiirrzr_l2 k k ((List.length (m2_3 ++ x1)) : Int) 0 (m2_3 ++ x1)) fun o3 =>
    match o3 with
    | .o0 v6 =>
     some (R8_aiirrzr.o0 v6)
    | .o1 _ _ _ =>
     none
    | .o2 v7 v8 v9 v10 =>
     f8_aiirrzr_j3 k v7 v8 v9 v10))
theorem f8_aiirrzr_j1_ok (k:Nat) (x1:List T39) (x16:Bool) (m2 m2_1:Int) (m2_2:List T65) (m2_3:List T39) (r:R8_aiirrzr) (hF:f8_aiirrzr_j1 k x1 x16 m2 m2_1 m2_2 m2_3 = some r) : finK Try.prog Try.f8 0 (EX 8 k (nav B8 [2,2]) (⟨33,[(1,.sl 11 (rowsOf encT39 x1)),(2,.ptr 2 0),(16,.p (.bool x16))],[(2,.box 26 [.p (.int .i64 m2),.p (.int .u32 m2_1),.sl 4 (rowsOf encT65 m2_2),.sl 11 (rowsOf encT39 m2_3)])]⟩ : St)) = some r.st := by
 unfold f8_aiirrzr_j1 at hF
 obtain ⟨h1,hF⟩ := ifE_some.1 hF
 obtain ⟨h2,hF⟩ := ifE_some.1 hF
 obtain ⟨o3,h4,hF⟩ := bs hF
 have hc5 := f8_aiirrzr_l2_ok k k ((List.length (m2_3 ++ x1)) : Int) 0 (m2_3 ++ x1) _ h4
 simp (maxSteps:=999999) (disch:=first|exact D (by decide)|exact K (by kernel_rfl)) only [E,EE,↓reduceIte,simprocAttr,xk B8 [2,2] .sq rfl,xk B8 [1,2,2] .sq rfl,rg B8 [1,1,2,2] 3 false rfl,hr_8_3,buildSliceV,fillRows,sm_39,t_24,t_39,fieldAddrV,t_26,appendV,content,xk B8 [2,1,2,2] (.bk 0) rfl,xk B8 [2,2,1,2,2] .lp rfl,hh_8_4,hc_8_4,h1,h2]
 (try simp only [NM,EE] at hc5)
 rw [hc5 _ (by simp (maxSteps:=999999) (disch:=first|exact D (by decide)|exact K (by kernel_rfl)) only [E,EE,↓reduceIte,simprocAttr,hh_8_4,hc_8_4,h1,h2])]
 clear hc5
 cases o3 with
 | o0 v6 =>
  (try dsimp only at hF)
  cases hF
  simp (maxSteps:=999999) (disch:=first|exact D (by decide)|exact K (by kernel_rfl)) only [E,EE,↓reduceIte,simprocAttr,R8_aiirrzr_l2.st,finK_norm,finK_ret,fin8,R8_aiirrzr.st,h1,h2]
 | o1 _ _ _ =>
  (try dsimp only at hF)
  cases hF
 | o2 v7 v8 v9 v10 =>
  (try dsimp only at hF)
  have hJ := f8_aiirrzr_j3_ok k v7 v8 v9 v10 _ hF
  simp (maxSteps:=999999) (disch:=first|exact D (by decide)|exact K (by kernel_rfl)) only [E,EE,↓reduceIte,simprocAttr,R8_aiirrzr_l2.st,h1,h2]
  try simp only [NM,EE] at hJ
  exact hJ
noncomputable def f8_aiirrzr_e (k:Nat) (a0 a0_1:Int) (a0_2:List T65) (a0_3 a1:List T39) : Option R8_aiirrzr :=
 cond ((decide (((List.length a0_2) : Int) > 300)))
  (some (R8_aiirrzr.o0 true))
  (
   cond ((decide (((List.length a0_3) : Int) > 60)))
    (some (R8_aiirrzr.o0 true))
    (f8_aiirrzr_j1 k a1 false a0 a0_1 a0_2 a0_3))
theorem f8_aiirrzr_e_ok (k:Nat) (a0 a0_1:Int) (a0_2:List T65) (a0_3 a1:List T39) (r:R8_aiirrzr) (hF:f8_aiirrzr_e k a0 a0_1 a0_2 a0_3 a1 = some r) : finK Try.prog Try.f8 0 (EX 8 k (nav B8 []) (⟨33,[(0,.agg [.p (.int .i64 a0),.p (.int .u32 a0_1),.sl 4 (rowsOf encT65 a0_2),.sl 11 (rowsOf encT39 a0_3)]),(1,.sl 11 (rowsOf encT39 a1))],[]⟩ : St)) = some r.st := by
 unfold f8_aiirrzr_e at hF
 simp (maxSteps:=999999) (disch:=first|exact D (by decide)|exact K (by kernel_rfl)) only [E,EE,↓reduceIte,simprocAttr,xk B8 [] .sq rfl,rg B8 [1] 0 false rfl,hr_8_0,xk B8 [2] .sq rfl,xk B8 [1,2] .sq rfl,rg B8 [1,1,2] 1 false rfl,hr_8_1,fieldAddrV,t_26,t_23]
 rcases cond_some hF with ⟨h1,hF⟩ | ⟨h1,hF⟩
 ·cases hF
  simp (maxSteps:=999999) (disch:=first|exact D (by decide)|exact K (by kernel_rfl)) only [E,EE,↓reduceIte,simprocAttr,xk B8 [2,1,2] (.cd 16) rfl,xk B8 [2,2,1,2] .sq rfl,rg B8 [1,2,2,1,2] 2 false rfl,hr_8_2,xk B8 [2,2,2,1,2] .rt rfl,finK_norm,finK_ret,fin8,R8_aiirrzr.st,h1]
 ·simp (maxSteps:=999999) (disch:=first|exact D (by decide)|exact K (by kernel_rfl)) only [E,EE,↓reduceIte,simprocAttr,fieldAddrV,t_26,t_24,xk B8 [2,1,2] (.cd 16) rfl,h1]
  rcases cond_some hF with ⟨h2,hF⟩ | ⟨h2,hF⟩
  ·cases hF
   simp (maxSteps:=999999) (disch:=first|exact D (by decide)|exact K (by kernel_rfl)) only [E,EE,↓reduceIte,simprocAttr,xk B8 [2,2,1,2] .sq rfl,rg B8 [1,2,2,1,2] 2 false rfl,hr_8_2,xk B8 [2,2,2,1,2] .rt rfl,finK_norm,finK_ret,fin8,R8_aiirrzr.st,h1,h2]
  ·have hJ := f8_aiirrzr_j1_ok k a1 false a0 a0_1 a0_2 a0_3 _ hF
   simp (maxSteps:=999999) (disch:=first|exact D (by decide)|exact K (by kernel_rfl)) only [E,EE,↓reduceIte,simprocAttr,xk B8 [3,2,1,2] .sk rfl,h1,h2]
   try simp only [NM,EE] at hJ
   exact hJ
noncomputable def f8_aiirrzr (k:Nat) (a0 a0_1:Int) (a0_2:List T65) (a0_3 a1:List T39) : Option R8_aiirrzr := match k with | 0 => none | k + 1 => f8_aiirrzr_e k a0 a0_1 a0_2 a0_3 a1
theorem f8_aiirrzr_ok (k:Nat) (a0 a0_1:Int) (a0_2:List T65) (a0_3 a1:List T39) (r:R8_aiirrzr) (hF:f8_aiirrzr k a0 a0_1 a0_2 a0_3 a1 = some r) : CV k 8 [.agg [.p (.int .i64 a0),.p (.int .u32 a0_1),.sl 4 (rowsOf encT65 a0_2),.sl 11 (rowsOf encT39 a0_3)],.sl 11 (rowsOf encT39 a1)] [] = some r.st := by
 cases k with
 | zero => cases hF
 | succ k =>
  unfold CV
  rw [ev_call (F := Try.f8) (c := (nav B8 [])) rfl Try.func8 rfl rfl rfl rfl]
  exact f8_aiirrzr_e_ok k a0 a0_1 a0_2 a0_3 a1 r hF
-- f23_iii: f23 heliograph/agent.within
inductive R23_iii where
 | o0 (y:Bool)
noncomputable def R23_iii.st : R23_iii → V × List O × List O
 | .o0 y => (.p (.bool y),[],[])
noncomputable def f23_iii_e (k:Nat) (a0 a1 a2:Int) : Option R23_iii :=
 cond ((decide (a0 ≥ a1)))
  (some (R23_iii.o0 (decide (a0 ≤ a2))))
  (some (R23_iii.o0 false))
theorem f23_iii_e_ok (k:Nat) (a0 a1 a2:Int) (r:R23_iii) (hF:f23_iii_e k a0 a1 a2 = some r) : finK Try.prog Try.f23 0 (EX 23 k (nav B23 []) (⟨15,[(0,.p (.int .i64 a0)),(1,.p (.int .i64 a1)),(2,.p (.int .i64 a2))],[]⟩ : St)) = some r.st := by
 unfold f23_iii_e at hF
 simp (maxSteps:=999999) (disch:=first|exact D (by decide)|exact K (by kernel_rfl)) only [E,EE,↓reduceIte,simprocAttr,xk B23 [] .sq rfl,rg B23 [1] 0 false rfl,hr_23_0,xk B23 [2] .sq rfl,rg B23 [1,2] 1 false rfl,hr_23_1]
 rcases cond_some hF with ⟨h1,hF⟩ | ⟨h1,hF⟩
 ·cases hF
  simp (maxSteps:=999999) (disch:=first|exact D (by decide)|exact K (by kernel_rfl)) only [E,EE,↓reduceIte,simprocAttr,xk B23 [2,2] .rt rfl,finK_norm,finK_ret,fin23,R23_iii.st,h1]
 ·cases hF
  simp (maxSteps:=999999) (disch:=first|exact D (by decide)|exact K (by kernel_rfl)) only [E,EE,↓reduceIte,simprocAttr,xk B23 [2,2] .rt rfl,finK_norm,finK_ret,fin23,R23_iii.st,h1]
noncomputable def f23_iii (k:Nat) (a0 a1 a2:Int) : Option R23_iii := match k with | 0 => none | k + 1 => f23_iii_e k a0 a1 a2
theorem f23_iii_ok (k:Nat) (a0 a1 a2:Int) (r:R23_iii) (hF:f23_iii k a0 a1 a2 = some r) : CV k 23 [.p (.int .i64 a0),.p (.int .i64 a1),.p (.int .i64 a2)] [] = some r.st := by
 cases k with
 | zero => cases hF
 | succ k =>
  unfold CV
  rw [ev_call (F := Try.f23) (c := (nav B23 [])) rfl Try.func23 rfl rfl rfl rfl]
  exact f23_iii_e_ok k a0 a1 a2 r hF
-- f33_rai4z: f33 slices.Index[[]heliograph/api.Seen,heliograph/api.Seen]
inductive R33_rai4z where
 | o0 (y:Int)
noncomputable def R33_rai4z.st : R33_rai4z → V × List O × List O
 | .o0 y => (.p (.int .i64 y),[],[])
inductive R33_rai4z_l1 where
 | o0 (y:Int)
 | o1 (y:List T65) (y_1 y_2 y_3 y_4 y_5 y_6:Int)
 | o2 (y:List T65) (y_1 y_2:Int) (y_3:Bool) (y_4 y_5 y_6 y_7:Int)
noncomputable def R33_rai4z_l1.st : R33_rai4z_l1 → Out × St
 | .o0 y => (.ret,(⟨19,[(4,.p (.int .i64 y))],[]⟩ : St))
 | .o1 y y_1 y_2 y_3 y_4 y_5 y_6 => (.norm,(⟨19,[(0,.sl 4 (rowsOf encT65 y)),(3,.ptr 30000 0),(7,.p (.int .i64 y_1)),(8,.p (.int .i64 y_2))],[(30000,.box 65 [.p (.int .i64 y_3),.p (.int .u32 y_4),.p (.int .i64 y_5),.p (.int .i64 y_6)])]⟩ : St))
 | .o2 y y_1 y_2 y_3 y_4 y_5 y_6 y_7 => (.exit 0,(⟨19,[(0,.sl 4 (rowsOf encT65 y)),(3,.ptr 30000 0),(7,.p (.int .i64 y_1)),(8,.p (.int .i64 y_2)),(9,.p (.bool y_3))],[(30000,.box 65 [.p (.int .i64 y_4),.p (.int .u32 y_5),.p (.int .i64 y_6),.p (.int .i64 y_7)])]⟩ : St))
noncomputable def f33_rai4z_l1_j2 (k:Nat) (x0:List T65) (x5 x7 x8:Int) (x16:Bool) (h0_ h0__1 h0__2 h0__3:Int) : Option R33_rai4z_l1 :=
 some (R33_rai4z_l1.o1 x0 x7 (IntKind.i64.wrap (x8 + (1:Int))) h0_ h0__1 h0__2 h0__3)
theorem f33_rai4z_l1_j2_ok (k:Nat) (x0:List T65) (x5 x7 x8:Int) (x16:Bool) (h0_ h0__1 h0__2 h0__3:Int) (r:R33_rai4z_l1) (hF:f33_rai4z_l1_j2 k x0 x5 x7 x8 x16 h0_ h0__1 h0__2 h0__3 = some r) : EX 33 k (nav B33 [2,2,2,1,2,2,1,2]) (⟨19,[(0,.sl 4 (rowsOf encT65 x0)),(3,.ptr 30000 0),(5,.p (.int .i64 x5)),(7,.p (.int .i64 x7)),(8,.p (.int .i64 x8)),(16,.p (.bool x16))],[(30000,.box 65 [.p (.int .i64 h0_),.p (.int .u32 h0__1),.p (.int .i64 h0__2),.p (.int .i64 h0__3)])]⟩ : St) = some r.st := by
 unfold f33_rai4z_l1_j2 at hF
 cases hF
 simp (maxSteps:=999999) (disch:=first|exact D (by decide)|exact K (by kernel_rfl)) only [E,EE,↓reduceIte,simprocAttr,rg B33 [2,2,2,1,2,2,1,2] 6 false rfl,hr_33_6,R33_rai4z_l1.st]
noncomputable def f33_rai4z_l1_j1 (k:Nat) (x0:List T65) (x7 x8:Int) (x9:Bool) (h0_ h0__1 h0__2 h0__3:Int) : Option R33_rai4z_l1 :=
 ifE ((0:Int) ≤ x8) (
  Option.bind (x0[(Int.toNat x8)]?) fun v2 =>
   cond ((((h0_ == v2.Key_Source) && ((h0__1 == v2.Key_Seq) && (h0__2 == v2.Key_Offset))) && (h0__3 == v2.N)))
    (some (R33_rai4z_l1.o0 x8))
    (f33_rai4z_l1_j2 k x0 x8 x7 x8 false h0_ h0__1 h0__2 h0__3))
theorem f33_rai4z_l1_j1_ok (k:Nat) (x0:List T65) (x7 x8:Int) (x9:Bool) (h0_ h0__1 h0__2 h0__3:Int) (r:R33_rai4z_l1) (hF:f33_rai4z_l1_j1 k x0 x7 x8 x9 h0_ h0__1 h0__2 h0__3 = some r) : EX 33 k (nav B33 [2,2,1,2,2,1,2]) (⟨19,[(0,.sl 4 (rowsOf encT65 x0)),(3,.ptr 30000 0),(7,.p (.int .i64 x7)),(8,.p (.int .i64 x8)),(9,.p (.bool x9))],[(30000,.box 65 [.p (.int .i64 h0_),.p (.int .u32 h0__1),.p (.int .i64 h0__2),.p (.int .i64 h0__3)])]⟩ : St) = some r.st := by
 unfold f33_rai4z_l1_j1 at hF
 obtain ⟨h1,hF⟩ := ifE_some.1 hF
 obtain ⟨v2,h3,hF⟩ := bs hF
 simp (maxSteps:=999999) (disch:=first|exact D (by decide)|exact K (by kernel_rfl)) only [E,EE,↓reduceIte,simprocAttr,xk B33 [2,2,1,2,2,1,2] .sq rfl,xk B33 [1,2,2,1,2,2,1,2] (.bk 1) rfl,xk B33 [2,1,2,2,1,2,2,1,2] .sq rfl,rg B33 [1,2,1,2,2,1,2,2,1,2] 3 false rfl,hr_33_3,xk B33 [2,2,1,2,2,1,2,2,1,2] .sq rfl,rg B33 [1,2,2,1,2,2,1,2,2,1,2] 4 true rfl,hr_33_4,t_65,indexAddrV,t_23,encT65_eq,ag_65,ag_63,t_63,t_3,t_22,xk B33 [2,2,2,1,2,2,1,2,2,1,2] (.cd 16) rfl,h1,h3]
 rcases cond_some hF with ⟨h4,hF⟩ | ⟨h4,hF⟩
 ·cases hF
  simp (maxSteps:=999999) (disch:=first|exact D (by decide)|exact K (by kernel_rfl)) only [E,EE,↓reduceIte,simprocAttr,xk B33 [2,2,2,2,1,2,2,1,2,2,1,2] .sq rfl,rg B33 [1,2,2,2,2,1,2,2,1,2,2,1,2] 5 false rfl,hr_33_5,xk B33 [2,2,2,2,2,1,2,2,1,2,2,1,2] .rt rfl,R33_rai4z_l1.st,h1,h3,h4]
 ·have hJ := f33_rai4z_l1_j2_ok k x0 x8 x7 x8 false h0_ h0__1 h0__2 h0__3 _ hF
  simp (maxSteps:=999999) (disch:=first|exact D (by decide)|exact K (by kernel_rfl)) only [E,EE,↓reduceIte,simprocAttr,xk B33 [3,2,2,2,1,2,2,1,2,2,1,2] .sk rfl,h1,h3,h4]
  try simp only [NM,EE] at hJ
  exact hJ
noncomputable def f33_rai4z_l1_b (k:Nat) (x0:List T65) (x7 x8 h0_ h0__1 h0__2 h0__3:Int) : Option R33_rai4z_l1 :=
 cond ((decide (x8 < x7)))
  (f33_rai4z_l1_j1 k x0 x7 x8 true h0_ h0__1 h0__2 h0__3)
  (some (R33_rai4z_l1.o2 x0 x7 x8 false h0_ h0__1 h0__2 h0__3))
theorem f33_rai4z_l1_b_ok (k:Nat) (x0:List T65) (x7 x8 h0_ h0__1 h0__2 h0__3:Int) (r:R33_rai4z_l1) (hF:f33_rai4z_l1_b k x0 x7 x8 h0_ h0__1 h0__2 h0__3 = some r) : EX 33 k (nav B33 [1,2,2,1,2]) (⟨19,[(0,.sl 4 (rowsOf encT65 x0)),(3,.ptr 30000 0),(7,.p (.int .i64 x7)),(8,.p (.int .i64 x8))],[(30000,.box 65 [.p (.int .i64 h0_),.p (.int .u32 h0__1),.p (.int .i64 h0__2),.p (.int .i64 h0__3)])]⟩ : St) = some r.st := by
 unfold f33_rai4z_l1_b at hF
 simp (maxSteps:=999999) (disch:=first|exact D (by decide)|exact K (by kernel_rfl)) only [E,EE,↓reduceIte,simprocAttr,xk B33 [1,2,2,1,2] .sq rfl,rg B33 [1,1,2,2,1,2] 2 false rfl,hr_33_2,xk B33 [2,1,2,2,1,2] .sq rfl,xk B33 [1,2,1,2,2,1,2] (.cd 9) rfl]
 rcases cond_some hF with ⟨h1,hF⟩ | ⟨h1,hF⟩
 ·have hJ := f33_rai4z_l1_j1_ok k x0 x7 x8 true h0_ h0__1 h0__2 h0__3 _ hF
  simp (maxSteps:=999999) (disch:=first|exact D (by decide)|exact K (by kernel_rfl)) only [E,EE,↓reduceIte,simprocAttr,xk B33 [2,1,2,1,2,2,1,2] .sk rfl,h1]
  try simp only [NM,EE] at hJ
  exact hJ
 ·cases hF
  simp (maxSteps:=999999) (disch:=first|exact D (by decide)|exact K (by kernel_rfl)) only [E,EE,↓reduceIte,simprocAttr,xk B33 [3,1,2,1,2,2,1,2] (.ex 0) rfl,R33_rai4z_l1.st,h1]
noncomputable def f33_rai4z_l1 (k:Nat) : Nat → (List T65) → Int → Int → Int → Int → Int → Int → Option R33_rai4z_l1
 | 0,_,_,_,_,_,_,_ => none
 | n + 1,x0,x7,x8,h0_,h0__1,h0__2,h0__3 => Option.bind (f33_rai4z_l1_b k x0 x7 x8 h0_ h0__1 h0__2 h0__3) fun o =>
  match o with
  | .o0 y => some (.o0 y)
  | .o1 y y_1 y_2 y_3 y_4 y_5 y_6 => f33_rai4z_l1 k n y y_1 y_2 y_3 y_4 y_5 y_6
  | .o2 y y_1 y_2 y_3 y_4 y_5 y_6 y_7 => some (.o2 y y_1 y_2 y_3 y_4 y_5 y_6 y_7)
theorem f33_rai4z_l1_ok (k n:Nat) : ∀ (x0:List T65) (x7 x8 h0_ h0__1 h0__2 h0__3:Int) (r:R33_rai4z_l1) (hF:f33_rai4z_l1 k n x0 x7 x8 h0_ h0__1 h0__2 h0__3 = some r) (σ:St) (hσ:headR (hints.head 33 2) (hints.canon 33 2) σ = some (⟨19,[(0,.sl 4 (rowsOf encT65 x0)),(3,.ptr 30000 0),(7,.p (.int .i64 x7)),(8,.p (.int .i64 x8))],[(30000,.box 65 [.p (.int .i64 h0_),.p (.int .u32 h0__1),.p (.int .i64 h0__2),.p (.int .i64 h0__3)])]⟩ : St)),LP 33 k (nav B33 [1,2,2,1,2]) n σ = some r.st := by
 induction n with
 | zero => intro x0 x7 x8 h0_ h0__1 h0__2 h0__3 r hF; cases hF
 | succ n ih =>
  intro x0 x7 x8 h0_ h0__1 h0__2 h0__3 r hF σ hσ
  rw [f33_rai4z_l1] at hF
  obtain ⟨o,h,hF⟩ := Option.bind_eq_some_iff.1 hF
  have hB := f33_rai4z_l1_b_ok k x0 x7 x8 h0_ h0__1 h0__2 h0__3 o h
  unfold LP at ih ⊢
  unfold EX at hB
  rw [loopK_succ,show firstReg (nav B33 [1,2,2,1,2]) = 2 from rfl,hσ,headK_some,hB]
  cases o with
  | o0 y => cases hF; rfl
  | o1 y y_1 y_2 y_3 y_4 y_5 y_6 =>
   refine ih y y_1 y_2 y_3 y_4 y_5 y_6 r hF _ ?_
   simp (maxSteps:=999999) (disch:=first|exact D (by decide)|exact K (by kernel_rfl)) only [E,EE,↓reduceIte,simprocAttr,hh_33_2,hc_33_2]
  | o2 y y_1 y_2 y_3 y_4 y_5 y_6 y_7 => cases hF; rfl
noncomputable def f33_rai4z_j2 (k:Nat) (x0:List T65) (x7 x8:Int) (x9:Bool) (h0_ h0__1 h0__2 h0__3:Int) : Option R33_rai4z :=
 some (R33_rai4z.o0 (-1))
theorem f33_rai4z_j2_ok (k:Nat) (x0:List T65) (x7 x8:Int) (x9:Bool) (h0_ h0__1 h0__2 h0__3:Int) (r:R33_rai4z) (hF:f33_rai4z_j2 k x0 x7 x8 x9 h0_ h0__1 h0__2 h0__3 = some r) : finK Try.prog Try.f33 0 (EX 33 k (nav B33 [2,2]) (⟨19,[(0,.sl 4 (rowsOf encT65 x0)),(3,.ptr 30000 0),(7,.p (.int .i64 x7)),(8,.p (.int .i64 x8)),(9,.p (.bool x9))],[(30000,.box 65 [.p (.int .i64 h0_),.p (.int .u32 h0__1),.p (.int .i64 h0__2),.p (.int .i64 h0__3)])]⟩ : St)) = some r.st := by
 unfold f33_rai4z_j2 at hF
 cases hF
 simp (maxSteps:=999999) (disch:=first|exact D (by decide)|exact K (by kernel_rfl)) only [E,EE,↓reduceIte,simprocAttr,xk B33 [2,2] .sq rfl,rg B33 [1,2,2] 7 false rfl,hr_33_7,xk B33 [2,2,2] .rt rfl,finK_norm,finK_ret,fin33,R33_rai4z.st]
noncomputable def f33_rai4z_e (k:Nat) (a0:List T65) (a1 a1_1 a1_2 a1_3:Int) : Option R33_rai4z :=
 Option.bind (f33_rai4z_l1 k k a0 ((List.length a0) : Int) 0 a1 a1_1 a1_2 a1_3) fun o1 =>
  match o1 with
  | .o0 v4 =>
   some (R33_rai4z.o0 v4)
  | .o1 _ _ _ _ _ _ _ =>
   none
  | .o2 v5 v6 v7 v8 v9 v10 v11 v12 =>
   f33_rai4z_j2 k v5 v6 v7 v8 v9 v10 v11 v12
theorem f33_rai4z_e_ok (k:Nat) (a0:List T65) (a1 a1_1 a1_2 a1_3:Int) (r:R33_rai4z) (hF:f33_rai4z_e k a0 a1 a1_1 a1_2 a1_3 = some r) : finK Try.prog Try.f33 0 (EX 33 k (nav B33 []) (⟨19,[(0,.sl 4 (rowsOf encT65 a0)),(1,.agg [.p (.int .i64 a1),.p (.int .u32 a1_1),.p (.int .i64 a1_2),.p (.int .i64 a1_3)])],[]⟩ : St)) = some r.st := by
 unfold f33_rai4z_e at hF
 obtain ⟨o1,h2,hF⟩ := bs hF
 have hc3 := f33_rai4z_l1_ok k k a0 ((List.length a0) : Int) 0 a1 a1_1 a1_2 a1_3 _ h2
 simp (maxSteps:=999999) (disch:=first|exact D (by decide)|exact K (by kernel_rfl)) only [E,EE,↓reduceIte,simprocAttr,xk B33 [] .sq rfl,rg B33 [1] 0 false rfl,hr_33_0,xk B33 [2] .sq rfl,xk B33 [1,2] .sq rfl,rg B33 [1,1,2] 1 false rfl,hr_33_1,t_23,xk B33 [2,1,2] (.bk 0) rfl,xk B33 [2,2,1,2] .lp rfl,hh_33_2,hc_33_2]
 (try simp only [NM,EE] at hc3)
 rw [hc3 _ (by simp (maxSteps:=999999) (disch:=first|exact D (by decide)|exact K (by kernel_rfl)) only [E,EE,↓reduceIte,simprocAttr,hh_33_2,hc_33_2])]
 clear hc3
 cases o1 with
 | o0 v4 =>
  (try dsimp only at hF)
  cases hF
  simp (maxSteps:=999999) (disch:=first|exact D (by decide)|exact K (by kernel_rfl)) only [E,EE,↓reduceIte,simprocAttr,R33_rai4z_l1.st,finK_norm,finK_ret,fin33,R33_rai4z.st]
 | o1 _ _ _ _ _ _ _ =>
  (try dsimp only at hF)
  cases hF
 | o2 v5 v6 v7 v8 v9 v10 v11 v12 =>
  (try dsimp only at hF)
  have hJ := f33_rai4z_j2_ok k v5 v6 v7 v8 v9 v10 v11 v12 _ hF
  simp (maxSteps:=999999) (disch:=first|exact D (by decide)|exact K (by kernel_rfl)) only [E,EE,↓reduceIte,simprocAttr,R33_rai4z_l1.st]
  try simp only [NM,EE] at hJ
  exact hJ
noncomputable def f33_rai4z (k:Nat) (a0:List T65) (a1 a1_1 a1_2 a1_3:Int) : Option R33_rai4z := match k with | 0 => none | k + 1 => f33_rai4z_e k a0 a1 a1_1 a1_2 a1_3
theorem f33_rai4z_ok (k:Nat) (a0:List T65) (a1 a1_1 a1_2 a1_3:Int) (r:R33_rai4z) (hF:f33_rai4z k a0 a1 a1_1 a1_2 a1_3 = some r) : CV k 33 [.sl 4 (rowsOf encT65 a0),.agg [.p (.int .i64 a1),.p (.int .u32 a1_1),.p (.int .i64 a1_2),.p (.int .i64 a1_3)]] [] = some r.st := by
 cases k with
 | zero => cases hF
 | succ k =>
  unfold CV
  rw [ev_call (F := Try.f33) (c := (nav B33 [])) rfl Try.func33 rfl rfl rfl rfl]
  exact f33_rai4z_e_ok k a0 a1 a1_1 a1_2 a1_3 r hF
-- f45_iii: f45 heliograph/bundle.within
inductive R45_iii where
 | o0 (y:Bool)
noncomputable def R45_iii.st : R45_iii → V × List O × List O
 | .o0 y => (.p (.bool y),[],[])
noncomputable def f45_iii_e (k:Nat) (a0 a1 a2:Int) : Option R45_iii :=
 cond ((decide (a0 ≥ a1)))
  (some (R45_iii.o0 (decide (a0 ≤ a2))))
  (some (R45_iii.o0 false))
theorem f45_iii_e_ok (k:Nat) (a0 a1 a2:Int) (r:R45_iii) (hF:f45_iii_e k a0 a1 a2 = some r) : finK Try.prog Try.f45 0 (EX 45 k (nav B45 []) (⟨15,[(0,.p (.int .i64 a0)),(1,.p (.int .i64 a1)),(2,.p (.int .i64 a2))],[]⟩ : St)) = some r.st := by
 unfold f45_iii_e at hF
 simp (maxSteps:=999999) (disch:=first|exact D (by decide)|exact K (by kernel_rfl)) only [E,EE,↓reduceIte,simprocAttr,xk B45 [] .sq rfl,rg B45 [1] 0 false rfl,hr_45_0,xk B45 [2] .sq rfl,rg B45 [1,2] 1 false rfl,hr_45_1]
 rcases cond_some hF with ⟨h1,hF⟩ | ⟨h1,hF⟩
 ·cases hF
  simp (maxSteps:=999999) (disch:=first|exact D (by decide)|exact K (by kernel_rfl)) only [E,EE,↓reduceIte,simprocAttr,xk B45 [2,2] .rt rfl,finK_norm,finK_ret,fin45,R45_iii.st,h1]
 ·cases hF
  simp (maxSteps:=999999) (disch:=first|exact D (by decide)|exact K (by kernel_rfl)) only [E,EE,↓reduceIte,simprocAttr,xk B45 [2,2] .rt rfl,finK_norm,finK_ret,fin45,R45_iii.st,h1]
noncomputable def f45_iii (k:Nat) (a0 a1 a2:Int) : Option R45_iii := match k with | 0 => none | k + 1 => f45_iii_e k a0 a1 a2
theorem f45_iii_ok (k:Nat) (a0 a1 a2:Int) (r:R45_iii) (hF:f45_iii k a0 a1 a2 = some r) : CV k 45 [.p (.int .i64 a0),.p (.int .i64 a1),.p (.int .i64 a2)] [] = some r.st := by
 cases k with
 | zero => cases hF
 | succ k =>
  unfold CV
  rw [ev_call (F := Try.f45) (c := (nav B45 [])) rfl Try.func45 rfl rfl rfl rfl]
  exact f45_iii_e_ok k a0 a1 a2 r hF
-- f24_ai10rz: f24 heliograph/bundle.Check
inductive R24_ai10rz where
 | o0 (y:Int)
noncomputable def R24_ai10rz.st : R24_ai10rz → V × List O × List O
 | .o0 y => (.p (.int .i64 y),[],[])
noncomputable def f24_ai10rz_j1 (k:Nat) (x72:Bool) : Option R24_ai10rz :=
 some (R24_ai10rz.o0 0)
theorem f24_ai10rz_j1_ok (k:Nat) (x72:Bool) (r:R24_ai10rz) (hF:f24_ai10rz_j1 k x72 = some r) : finK Try.prog Try.f24 0 (EX 24 k (nav B24 [2,2,2,2,2,2]) (⟨73,[(72,.p (.bool x72))],[]⟩ : St)) = some r.st := by
 unfold f24_ai10rz_j1 at hF
 cases hF
 simp (maxSteps:=999999) (disch:=first|exact D (by decide)|exact K (by kernel_rfl)) only [E,EE,↓reduceIte,simprocAttr,xk B24 [2,2,2,2,2,2] .sq rfl,rg B24 [1,2,2,2,2,2,2] 7 false rfl,hr_24_7,xk B24 [2,2,2,2,2,2,2] .rt rfl,finK_norm,finK_ret,fin24,R24_ai10rz.st]
noncomputable def f24_ai10rz_e (k:Nat) (a0 a0_1 a0_2 a0_3 a0_4 a0_5 a0_6 a0_7 a0_8 a0_9:Int) (a0_10:List Int) : Option R24_ai10rz :=
 Option.bind (f45_iii k a0 1 6) fun o1 =>
  match o1 with
  | .o0 v4 =>
   cond (v4)
    (
     Option.bind (f45_iii k a0_1 1 6) fun o6 =>
      match o6 with
      | .o0 v9 =>
       cond (v9)
        (
         cond ((decide (a0_2 > 0)))
          (
           Option.bind (f45_iii k a0_3 0 1048576) fun o12 =>
            match o12 with
            | .o0 v15 =>
             cond (v15)
              (
               Option.bind (f45_iii k a0_4 1 1048576) fun o17 =>
                match o17 with
                | .o0 v20 =>
                 cond (v20)
                  (
                   Option.bind (f45_iii k a0_5 1 16) fun o22 =>
                    match o22 with
                    | .o0 v25 =>
                     cond (v25)
                      (
                       Option.bind (f45_iii k a0_6 0 a0_5) fun o27 =>
                        match o27 with
                        | .o0 v30 =>
                         cond (v30)
                          (
                           Option.bind (f45_iii k a0_7 0 2) fun o32 =>
                            match o32 with
                            | .o0 v35 =>
                             cond (v35)
                              (
                               Option.bind (f45_iii k a0_9 1 400) fun o37 =>
                                match o37 with
                                | .o0 v40 =>
                                 cond (v40)
                                  (
                                   Option.bind (f45_iii k ((List.length a0_10) : Int) 1 a0_9) fun o42 =>
                                    match o42 with
                                    | .o0 v45 =>
                                     cond (v45)
                                      (
                                       Option.bind (f45_iii k a0_8 0 (IntKind.i64.wrap (a0_9 - ((List.length a0_10) : Int)))) fun o47 =>
                                        match o47 with
                                        | .o0 v50 =>
                                         cond ((!v50))
                                          (some (R24_ai10rz.o0 190))
                                          (f24_ai10rz_j1 k false))
                                      (some (R24_ai10rz.o0 190)))
                                  (some (R24_ai10rz.o0 190)))
                              (some (R24_ai10rz.o0 190)))
                          (some (R24_ai10rz.o0 190)))
                      (some (R24_ai10rz.o0 190)))
                  (some (R24_ai10rz.o0 190)))
              (some (R24_ai10rz.o0 190)))
          (some (R24_ai10rz.o0 190)))
        (some (R24_ai10rz.o0 190)))
    (some (R24_ai10rz.o0 190))
theorem f24_ai10rz_e_ok (k:Nat) (a0 a0_1 a0_2 a0_3 a0_4 a0_5 a0_6 a0_7 a0_8 a0_9:Int) (a0_10:List Int) (r:R24_ai10rz) (hF:f24_ai10rz_e k a0 a0_1 a0_2 a0_3 a0_4 a0_5 a0_6 a0_7 a0_8 a0_9 a0_10 = some r) : finK Try.prog Try.f24 0 (EX 24 k (nav B24 []) (⟨73,[(0,.agg [.p (.int .i64 a0),.p (.int .i64 a0_1),.p (.int .u32 a0_2),.p (.int .i64 a0_3),.p (.int .i64 a0_4),.p (.int .i64 a0_5),.p (.int .i64 a0_6),.p (.int .i64 a0_7),.p (.int .i64 a0_8),.p (.int .i64 a0_9),.sl 1 (rowsOf (encI .u8) a0_10)])],[]⟩ : St)) = some r.st := by
 unfold f24_ai10rz_e at hF
 obtain ⟨o1,h2,hF⟩ := bs hF
 have hc3 := f45_iii_ok k a0 1 6 _ h2
 cases o1 with
 | o0 v4 =>
  (try dsimp only at hF)
  (try simp only [NM,EE,R45_iii.st] at hc3)
  simp (maxSteps:=999999) (disch:=first|exact D (by decide)|exact K (by kernel_rfl)) only [E,EE,↓reduceIte,simprocAttr,xk B24 [] .sq rfl,rg B24 [1] 0 false rfl,hr_24_0,xk B24 [2] .sq rfl,rg B24 [1,2] 1 false rfl,hr_24_1,fieldAddrV,t_39,t_3,callStep,CL,gv,List.contains,hc3]
  rcases cond_some hF with ⟨h5,hF⟩ | ⟨h5,hF⟩
  ·obtain ⟨o6,h7,hF⟩ := bs hF
   have hc8 := f45_iii_ok k a0_1 1 6 _ h7
   cases o6 with
   | o0 v9 =>
    (try dsimp only at hF)
    (try simp only [NM,EE,R45_iii.st] at hc8)
    simp (maxSteps:=999999) (disch:=first|exact D (by decide)|exact K (by kernel_rfl)) only [E,EE,↓reduceIte,simprocAttr,fieldAddrV,t_39,t_3,callStep,CL,gv,List.contains,hc3,h5,hc8]
    rcases cond_some hF with ⟨h10,hF⟩ | ⟨h10,hF⟩
    ·simp (maxSteps:=999999) (disch:=first|exact D (by decide)|exact K (by kernel_rfl)) only [E,EE,↓reduceIte,simprocAttr,fieldAddrV,t_39,t_22,xk B24 [2,2] .sq rfl,rg B24 [1,2,2] 2 false rfl,hr_24_2,hc3,h5,hc8,h10]
     rcases cond_some hF with ⟨h11,hF⟩ | ⟨h11,hF⟩
     ·obtain ⟨o12,h13,hF⟩ := bs hF
      have hc14 := f45_iii_ok k a0_3 0 1048576 _ h13
      cases o12 with
      | o0 v15 =>
       (try dsimp only at hF)
       (try simp only [NM,EE,R45_iii.st] at hc14)
       simp (maxSteps:=999999) (disch:=first|exact D (by decide)|exact K (by kernel_rfl)) only [E,EE,↓reduceIte,simprocAttr,fieldAddrV,t_39,t_3,callStep,CL,gv,List.contains,hc3,h5,hc8,h10,h11,hc14]
       rcases cond_some hF with ⟨h16,hF⟩ | ⟨h16,hF⟩
       ·obtain ⟨o17,h18,hF⟩ := bs hF
        have hc19 := f45_iii_ok k a0_4 1 1048576 _ h18
        cases o17 with
        | o0 v20 =>
         (try dsimp only at hF)
         (try simp only [NM,EE,R45_iii.st] at hc19)
         simp (maxSteps:=999999) (disch:=first|exact D (by decide)|exact K (by kernel_rfl)) only [E,EE,↓reduceIte,simprocAttr,fieldAddrV,t_39,t_3,callStep,CL,gv,List.contains,xk B24 [2,2,2] .sq rfl,rg B24 [1,2,2,2] 3 false rfl,hr_24_3,hc3,h5,hc8,h10,h11,hc14,h16,hc19]
         rcases cond_some hF with ⟨h21,hF⟩ | ⟨h21,hF⟩
         ·obtain ⟨o22,h23,hF⟩ := bs hF
          have hc24 := f45_iii_ok k a0_5 1 16 _ h23
          cases o22 with
          | o0 v25 =>
           (try dsimp only at hF)
           (try simp only [NM,EE,R45_iii.st] at hc24)
           simp (maxSteps:=999999) (disch:=first|exact D (by decide)|exact K (by kernel_rfl)) only [E,EE,↓reduceIte,simprocAttr,fieldAddrV,t_39,t_3,callStep,CL,gv,List.contains,hc3,h5,hc8,h10,h11,hc14,h16,hc19,h21,hc24]
           rcases cond_some hF with ⟨h26,hF⟩ | ⟨h26,hF⟩
           ·obtain ⟨o27,h28,hF⟩ := bs hF
            have hc29 := f45_iii_ok k a0_6 0 a0_5 _ h28
            cases o27 with
            | o0 v30 =>
             (try dsimp only at hF)
             (try simp only [NM,EE,R45_iii.st] at hc29)
             simp (maxSteps:=999999) (disch:=first|exact D (by decide)|exact K (by kernel_rfl)) only [E,EE,↓reduceIte,simprocAttr,fieldAddrV,t_39,t_3,callStep,CL,gv,List.contains,hc3,h5,hc8,h10,h11,hc14,h16,hc19,h21,hc24,h26,hc29]
             rcases cond_some hF with ⟨h31,hF⟩ | ⟨h31,hF⟩
             ·obtain ⟨o32,h33,hF⟩ := bs hF
              have hc34 := f45_iii_ok k a0_7 0 2 _ h33
              cases o32 with
              | o0 v35 =>
               (try dsimp only at hF)
               (try simp only [NM,EE,R45_iii.st] at hc34)
               simp (maxSteps:=999999) (disch:=first|exact D (by decide)|exact K (by kernel_rfl)) only [E,EE,↓reduceIte,simprocAttr,fieldAddrV,t_39,t_3,callStep,CL,gv,List.contains,xk B24 [2,2,2,2] .sq rfl,rg B24 [1,2,2,2,2] 4 false rfl,hr_24_4,hc3,h5,hc8,h10,h11,hc14,h16,hc19,h21,hc24,h26,hc29,h31,hc34]
               rcases cond_some hF with ⟨h36,hF⟩ | ⟨h36,hF⟩
               ·obtain ⟨o37,h38,hF⟩ := bs hF
                have hc39 := f45_iii_ok k a0_9 1 400 _ h38
                cases o37 with
                | o0 v40 =>
                 (try dsimp only at hF)
                 (try simp only [NM,EE,R45_iii.st] at hc39)
                 simp (maxSteps:=999999) (disch:=first|exact D (by decide)|exact K (by kernel_rfl)) only [E,EE,↓reduceIte,simprocAttr,fieldAddrV,t_39,t_3,callStep,CL,gv,List.contains,hc3,h5,hc8,h10,h11,hc14,h16,hc19,h21,hc24,h26,hc29,h31,hc34,h36,hc39]
                 rcases cond_some hF with ⟨h41,hF⟩ | ⟨h41,hF⟩
                 ·obtain ⟨o42,h43,hF⟩ := bs hF
                  have hc44 := f45_iii_ok k ((List.length a0_10) : Int) 1 a0_9 _ h43
                  cases o42 with
                  | o0 v45 =>
                   (try dsimp only at hF)
                   (try simp only [NM,EE,R45_iii.st] at hc44)
                   simp (maxSteps:=999999) (disch:=first|exact D (by decide)|exact K (by kernel_rfl)) only [E,EE,↓reduceIte,simprocAttr,fieldAddrV,t_39,t_29,t_3,callStep,CL,gv,List.contains,hc3,h5,hc8,h10,h11,hc14,h16,hc19,h21,hc24,h26,hc29,h31,hc34,h36,hc39,h41,hc44]
                   rcases cond_some hF with ⟨h46,hF⟩ | ⟨h46,hF⟩
                   ·obtain ⟨o47,h48,hF⟩ := bs hF
                    have hc49 := f45_iii_ok k a0_8 0 (IntKind.i64.wrap (a0_9 - ((List.length a0_10) : Int))) _ h48
                    cases o47 with
                    | o0 v50 =>
                     (try dsimp only at hF)
                     (try simp only [NM,EE,R45_iii.st] at hc49)
                     simp (maxSteps:=999999) (disch:=first|exact D (by decide)|exact K (by kernel_rfl)) only [E,EE,↓reduceIte,simprocAttr,fieldAddrV,t_39,t_3,t_29,callStep,CL,gv,List.contains,xk B24 [2,2,2,2,2] .sq rfl,xk B24 [1,2,2,2,2,2] .sq rfl,rg B24 [1,1,2,2,2,2,2] 5 false rfl,hr_24_5,xk B24 [2,1,2,2,2,2,2] (.cd 72) rfl,hc3,h5,hc8,h10,h11,hc14,h16,hc19,h21,hc24,h26,hc29,h31,hc34,h36,hc39,h41,hc44,h46,hc49]
                     rcases cond_some hF with ⟨h51,hF⟩ | ⟨h51,hF⟩
                     ·cases hF
                      simp (maxSteps:=999999) (disch:=first|exact D (by decide)|exact K (by kernel_rfl)) only [E,EE,↓reduceIte,simprocAttr,xk B24 [2,2,1,2,2,2,2,2] .sq rfl,rg B24 [1,2,2,1,2,2,2,2,2] 6 false rfl,hr_24_6,xk B24 [2,2,2,1,2,2,2,2,2] .rt rfl,finK_norm,finK_ret,fin24,R24_ai10rz.st,hc3,h5,hc8,h10,h11,hc14,h16,hc19,h21,hc24,h26,hc29,h31,hc34,h36,hc39,h41,hc44,h46,hc49,h51]
                     ·have hJ := f24_ai10rz_j1_ok k false _ hF
                      simp (maxSteps:=999999) (disch:=first|exact D (by decide)|exact K (by kernel_rfl)) only [E,EE,↓reduceIte,simprocAttr,xk B24 [3,2,1,2,2,2,2,2] .sk rfl,hc3,h5,hc8,h10,h11,hc14,h16,hc19,h21,hc24,h26,hc29,h31,hc34,h36,hc39,h41,hc44,h46,hc49,h51]
                      try simp only [NM,EE] at hJ
                      exact hJ
                   ·cases hF
                    simp (maxSteps:=999999) (disch:=first|exact D (by decide)|exact K (by kernel_rfl)) only [E,EE,↓reduceIte,simprocAttr,xk B24 [2,2,2,2,2] .sq rfl,xk B24 [1,2,2,2,2,2] .sq rfl,rg B24 [1,1,2,2,2,2,2] 5 false rfl,hr_24_5,xk B24 [2,1,2,2,2,2,2] (.cd 72) rfl,xk B24 [2,2,1,2,2,2,2,2] .sq rfl,rg B24 [1,2,2,1,2,2,2,2,2] 6 false rfl,hr_24_6,xk B24 [2,2,2,1,2,2,2,2,2] .rt rfl,finK_norm,finK_ret,fin24,R24_ai10rz.st,hc3,h5,hc8,h10,h11,hc14,h16,hc19,h21,hc24,h26,hc29,h31,hc34,h36,hc39,h41,hc44,h46]
                 ·cases hF
                  simp (maxSteps:=999999) (disch:=first|exact D (by decide)|exact K (by kernel_rfl)) only [E,EE,↓reduceIte,simprocAttr,xk B24 [2,2,2,2,2] .sq rfl,xk B24 [1,2,2,2,2,2] .sq rfl,rg B24 [1,1,2,2,2,2,2] 5 false rfl,hr_24_5,xk B24 [2,1,2,2,2,2,2] (.cd 72) rfl,xk B24 [2,2,1,2,2,2,2,2] .sq rfl,rg B24 [1,2,2,1,2,2,2,2,2] 6 false rfl,hr_24_6,xk B24 [2,2,2,1,2,2,2,2,2] .rt rfl,finK_norm,finK_ret,fin24,R24_ai10rz.st,hc3,h5,hc8,h10,h11,hc14,h16,hc19,h21,hc24,h26,hc29,h31,hc34,h36,hc39,h41]
               ·cases hF
                simp (maxSteps:=999999) (disch:=first|exact D (by decide)|exact K (by kernel_rfl)) only [E,EE,↓reduceIte,simprocAttr,xk B24 [2,2,2,2,2] .sq rfl,xk B24 [1,2,2,2,2,2] .sq rfl,rg B24 [1,1,2,2,2,2,2] 5 false rfl,hr_24_5,xk B24 [2,1,2,2,2,2,2] (.cd 72) rfl,xk B24 [2,2,1,2,2,2,2,2] .sq rfl,rg B24 [1,2,2,1,2,2,2,2,2] 6 false rfl,hr_24_6,xk B24 [2,2,2,1,2,2,2,2,2] .rt rfl,finK_norm,finK_ret,fin24,R24_ai10rz.st,hc3,h5,hc8,h10,h11,hc14,h16,hc19,h21,hc24,h26,hc29,h31,hc34,h36]
             ·cases hF
              simp (maxSteps:=999999) (disch:=first|exact D (by decide)|exact K (by kernel_rfl)) only [E,EE,↓reduceIte,simprocAttr,xk B24 [2,2,2,2] .sq rfl,rg B24 [1,2,2,2,2] 4 false rfl,hr_24_4,xk B24 [2,2,2,2,2] .sq rfl,xk B24 [1,2,2,2,2,2] .sq rfl,rg B24 [1,1,2,2,2,2,2] 5 false rfl,hr_24_5,xk B24 [2,1,2,2,2,2,2] (.cd 72) rfl,xk B24 [2,2,1,2,2,2,2,2] .sq rfl,rg B24 [1,2,2,1,2,2,2,2,2] 6 false rfl,hr_24_6,xk B24 [2,2,2,1,2,2,2,2,2] .rt rfl,finK_norm,finK_ret,fin24,R24_ai10rz.st,hc3,h5,hc8,h10,h11,hc14,h16,hc19,h21,hc24,h26,hc29,h31]
           ·cases hF
            simp (maxSteps:=999999) (disch:=first|exact D (by decide)|exact K (by kernel_rfl)) only [E,EE,↓reduceIte,simprocAttr,xk B24 [2,2,2,2] .sq rfl,rg B24 [1,2,2,2,2] 4 false rfl,hr_24_4,xk B24 [2,2,2,2,2] .sq rfl,xk B24 [1,2,2,2,2,2] .sq rfl,rg B24 [1,1,2,2,2,2,2] 5 false rfl,hr_24_5,xk B24 [2,1,2,2,2,2,2] (.cd 72) rfl,xk B24 [2,2,1,2,2,2,2,2] .sq rfl,rg B24 [1,2,2,1,2,2,2,2,2] 6 false rfl,hr_24_6,xk B24 [2,2,2,1,2,2,2,2,2] .rt rfl,finK_norm,finK_ret,fin24,R24_ai10rz.st,hc3,h5,hc8,h10,h11,hc14,h16,hc19,h21,hc24,h26]
         ·cases hF
          simp (maxSteps:=999999) (disch:=first|exact D (by decide)|exact K (by kernel_rfl)) only [E,EE,↓reduceIte,simprocAttr,xk B24 [2,2,2,2] .sq rfl,rg B24 [1,2,2,2,2] 4 false rfl,hr_24_4,xk B24 [2,2,2,2,2] .sq rfl,xk B24 [1,2,2,2,2,2] .sq rfl,rg B24 [1,1,2,2,2,2,2] 5 false rfl,hr_24_5,xk B24 [2,1,2,2,2,2,2] (.cd 72) rfl,xk B24 [2,2,1,2,2,2,2,2] .sq rfl,rg B24 [1,2,2,1,2,2,2,2,2] 6 false rfl,hr_24_6,xk B24 [2,2,2,1,2,2,2,2,2] .rt rfl,finK_norm,finK_ret,fin24,R24_ai10rz.st,hc3,h5,hc8,h10,h11,hc14,h16,hc19,h21]
       ·cases hF
        simp (maxSteps:=999999) (disch:=first|exact D (by decide)|exact K (by kernel_rfl)) only [E,EE,↓reduceIte,simprocAttr,xk B24 [2,2,2] .sq rfl,rg B24 [1,2,2,2] 3 false rfl,hr_24_3,xk B24 [2,2,2,2] .sq rfl,rg B24 [1,2,2,2,2] 4 false rfl,hr_24_4,xk B24 [2,2,2,2,2] .sq rfl,xk B24 [1,2,2,2,2,2] .sq rfl,rg B24 [1,1,2,2,2,2,2] 5 false rfl,hr_24_5,xk B24 [2,1,2,2,2,2,2] (.cd 72) rfl,xk B24 [2,2,1,2,2,2,2,2] .sq rfl,rg B24 [1,2,2,1,2,2,2,2,2] 6 false rfl,hr_24_6,xk B24 [2,2,2,1,2,2,2,2,2] .rt rfl,finK_norm,finK_ret,fin24,R24_ai10rz.st,hc3,h5,hc8,h10,h11,hc14,h16]
     ·cases hF
      simp (maxSteps:=999999) (disch:=first|exact D (by decide)|exact K (by kernel_rfl)) only [E,EE,↓reduceIte,simprocAttr,xk B24 [2,2,2] .sq rfl,rg B24 [1,2,2,2] 3 false rfl,hr_24_3,xk B24 [2,2,2,2] .sq rfl,rg B24 [1,2,2,2,2] 4 false rfl,hr_24_4,xk B24 [2,2,2,2,2] .sq rfl,xk B24 [1,2,2,2,2,2] .sq rfl,rg B24 [1,1,2,2,2,2,2] 5 false rfl,hr_24_5,xk B24 [2,1,2,2,2,2,2] (.cd 72) rfl,xk B24 [2,2,1,2,2,2,2,2] .sq rfl,rg B24 [1,2,2,1,2,2,2,2,2] 6 false rfl,hr_24_6,xk B24 [2,2,2,1,2,2,2,2,2] .rt rfl,finK_norm,finK_ret,fin24,R24_ai10rz.st,hc3,h5,hc8,h10,h11]
    ·cases hF
     simp (maxSteps:=999999) (disch:=first|exact D (by decide)|exact K (by kernel_rfl)) only [E,EE,↓reduceIte,simprocAttr,xk B24 [2,2] .sq rfl,rg B24 [1,2,2] 2 false rfl,hr_24_2,xk B24 [2,2,2] .sq rfl,rg B24 [1,2,2,2] 3 false rfl,hr_24_3,xk B24 [2,2,2,2] .sq rfl,rg B24 [1,2,2,2,2] 4 false rfl,hr_24_4,xk B24 [2,2,2,2,2] .sq rfl,xk B24 [1,2,2,2,2,2] .sq rfl,rg B24 [1,1,2,2,2,2,2] 5 false rfl,hr_24_5,xk B24 [2,1,2,2,2,2,2] (.cd 72) rfl,xk B24 [2,2,1,2,2,2,2,2] .sq rfl,rg B24 [1,2,2,1,2,2,2,2,2] 6 false rfl,hr_24_6,xk B24 [2,2,2,1,2,2,2,2,2] .rt rfl,finK_norm,finK_ret,fin24,R24_ai10rz.st,hc3,h5,hc8,h10]
  ·cases hF
   simp (maxSteps:=999999) (disch:=first|exact D (by decide)|exact K (by kernel_rfl)) only [E,EE,↓reduceIte,simprocAttr,xk B24 [2,2] .sq rfl,rg B24 [1,2,2] 2 false rfl,hr_24_2,xk B24 [2,2,2] .sq rfl,rg B24 [1,2,2,2] 3 false rfl,hr_24_3,xk B24 [2,2,2,2] .sq rfl,rg B24 [1,2,2,2,2] 4 false rfl,hr_24_4,xk B24 [2,2,2,2,2] .sq rfl,xk B24 [1,2,2,2,2,2] .sq rfl,rg B24 [1,1,2,2,2,2,2] 5 false rfl,hr_24_5,xk B24 [2,1,2,2,2,2,2] (.cd 72) rfl,xk B24 [2,2,1,2,2,2,2,2] .sq rfl,rg B24 [1,2,2,1,2,2,2,2,2] 6 false rfl,hr_24_6,xk B24 [2,2,2,1,2,2,2,2,2] .rt rfl,finK_norm,finK_ret,fin24,R24_ai10rz.st,hc3,h5]
noncomputable def f24_ai10rz (k:Nat) (a0 a0_1 a0_2 a0_3 a0_4 a0_5 a0_6 a0_7 a0_8 a0_9:Int) (a0_10:List Int) : Option R24_ai10rz := match k with | 0 => none | k + 1 => f24_ai10rz_e k a0 a0_1 a0_2 a0_3 a0_4 a0_5 a0_6 a0_7 a0_8 a0_9 a0_10
theorem f24_ai10rz_ok (k:Nat) (a0 a0_1 a0_2 a0_3 a0_4 a0_5 a0_6 a0_7 a0_8 a0_9:Int) (a0_10:List Int) (r:R24_ai10rz) (hF:f24_ai10rz k a0 a0_1 a0_2 a0_3 a0_4 a0_5 a0_6 a0_7 a0_8 a0_9 a0_10 = some r) : CV k 24 [.agg [.p (.int .i64 a0),.p (.int .i64 a0_1),.p (.int .u32 a0_2),.p (.int .i64 a0_3),.p (.int .i64 a0_4),.p (.int .i64 a0_5),.p (.int .i64 a0_6),.p (.int .i64 a0_7),.p (.int .i64 a0_8),.p (.int .i64 a0_9),.sl 1 (rowsOf (encI .u8) a0_10)]] [] = some r.st := by
 cases k with
 | zero => cases hF
 | succ k =>
  unfold CV
  rw [ev_call (F := Try.f24) (c := (nav B24 [])) rfl Try.func24 rfl rfl rfl rfl]
  exact f24_ai10rz_e_ok k a0 a0_1 a0_2 a0_3 a0_4 a0_5 a0_6 a0_7 a0_8 a0_9 a0_10 r hF
-- f34_ai10rz: f34 heliograph/bundle.Whole
inductive R34_ai10rz where
 | o0 (y:Bool)
noncomputable def R34_ai10rz.st : R34_ai10rz → V × List O × List O
 | .o0 y => (.p (.bool y),[],[])
noncomputable def f34_ai10rz_e (k:Nat) (a0 a0_1 a0_2 a0_3 a0_4 a0_5 a0_6 a0_7 a0_8 a0_9:Int) (a0_10:List Int) : Option R34_ai10rz :=
 some (R34_ai10rz.o0 (((List.length a0_10) : Int) == a0_9))
theorem f34_ai10rz_e_ok (k:Nat) (a0 a0_1 a0_2 a0_3 a0_4 a0_5 a0_6 a0_7 a0_8 a0_9:Int) (a0_10:List Int) (r:R34_ai10rz) (hF:f34_ai10rz_e k a0 a0_1 a0_2 a0_3 a0_4 a0_5 a0_6 a0_7 a0_8 a0_9 a0_10 = some r) : finK Try.prog Try.f34 0 (EX 34 k (nav B34 []) (⟨9,[(0,.agg [.p (.int .i64 a0),.p (.int .i64 a0_1),.p (.int .u32 a0_2),.p (.int .i64 a0_3),.p (.int .i64 a0_4),.p (.int .i64 a0_5),.p (.int .i64 a0_6),.p (.int .i64 a0_7),.p (.int .i64 a0_8),.p (.int .i64 a0_9),.sl 1 (rowsOf (encI .u8) a0_10)])],[]⟩ : St)) = some r.st := by
 unfold f34_ai10rz_e at hF
 cases hF
 simp (maxSteps:=999999) (disch:=first|exact D (by decide)|exact K (by kernel_rfl)) only [E,EE,↓reduceIte,simprocAttr,xk B34 [] .sq rfl,rg B34 [1] 0 false rfl,hr_34_0,xk B34 [2] .sq rfl,rg B34 [1,2] 1 false rfl,hr_34_1,fieldAddrV,t_39,t_29,t_3,xk B34 [2,2] .rt rfl,finK_norm,finK_ret,fin34,R34_ai10rz.st]
noncomputable def f34_ai10rz (k:Nat) (a0 a0_1 a0_2 a0_3 a0_4 a0_5 a0_6 a0_7 a0_8 a0_9:Int) (a0_10:List Int) : Option R34_ai10rz := match k with | 0 => none | k + 1 => f34_ai10rz_e k a0 a0_1 a0_2 a0_3 a0_4 a0_5 a0_6 a0_7 a0_8 a0_9 a0_10
theorem f34_ai10rz_ok (k:Nat) (a0 a0_1 a0_2 a0_3 a0_4 a0_5 a0_6 a0_7 a0_8 a0_9:Int) (a0_10:List Int) (r:R34_ai10rz) (hF:f34_ai10rz k a0 a0_1 a0_2 a0_3 a0_4 a0_5 a0_6 a0_7 a0_8 a0_9 a0_10 = some r) : CV k 34 [.agg [.p (.int .i64 a0),.p (.int .i64 a0_1),.p (.int .u32 a0_2),.p (.int .i64 a0_3),.p (.int .i64 a0_4),.p (.int .i64 a0_5),.p (.int .i64 a0_6),.p (.int .i64 a0_7),.p (.int .i64 a0_8),.p (.int .i64 a0_9),.sl 1 (rowsOf (encI .u8) a0_10)]] [] = some r.st := by
 cases k with
 | zero => cases hF
 | succ k =>
  unfold CV
  rw [ev_call (F := Try.f34) (c := (nav B34 [])) rfl Try.func34 rfl rfl rfl rfl]
  exact f34_ai10rz_e_ok k a0 a0_1 a0_2 a0_3 a0_4 a0_5 a0_6 a0_7 a0_8 a0_9 a0_10 r hF
-- f37_ai10rz: f37 heliograph/bundle.Id
inductive R37_ai10rz where
 | o0 (y y_1:Int)
noncomputable def R37_ai10rz.st : R37_ai10rz → V × List O × List O
 | .o0 y y_1 => (.agg [.p (.int .i64 y),.p (.int .u32 y_1)],[],[])
noncomputable def f37_ai10rz_e (k:Nat) (a0 a0_1 a0_2 a0_3 a0_4 a0_5 a0_6 a0_7 a0_8 a0_9:Int) (a0_10:List Int) : Option R37_ai10rz :=
 some (R37_ai10rz.o0 a0 a0_2)
theorem f37_ai10rz_e_ok (k:Nat) (a0 a0_1 a0_2 a0_3 a0_4 a0_5 a0_6 a0_7 a0_8 a0_9:Int) (a0_10:List Int) (r:R37_ai10rz) (hF:f37_ai10rz_e k a0 a0_1 a0_2 a0_3 a0_4 a0_5 a0_6 a0_7 a0_8 a0_9 a0_10 = some r) : finK Try.prog Try.f37 0 (EX 37 k (nav B37 []) (⟨8,[(0,.agg [.p (.int .i64 a0),.p (.int .i64 a0_1),.p (.int .u32 a0_2),.p (.int .i64 a0_3),.p (.int .i64 a0_4),.p (.int .i64 a0_5),.p (.int .i64 a0_6),.p (.int .i64 a0_7),.p (.int .i64 a0_8),.p (.int .i64 a0_9),.sl 1 (rowsOf (encI .u8) a0_10)])],[]⟩ : St)) = some r.st := by
 unfold f37_ai10rz_e at hF
 cases hF
 simp (maxSteps:=999999) (disch:=first|exact D (by decide)|exact K (by kernel_rfl)) only [E,EE,↓reduceIte,simprocAttr,xk B37 [] .sq rfl,rg B37 [1] 0 false rfl,hr_37_0,t_79,xk B37 [2] .sq rfl,rg B37 [1,2] 1 false rfl,hr_37_1,fieldAddrV,t_39,t_3,t_22,bl_79,xk B37 [2,2] .rt rfl,finK_norm,finK_ret,fin37,R37_ai10rz.st]
noncomputable def f37_ai10rz (k:Nat) (a0 a0_1 a0_2 a0_3 a0_4 a0_5 a0_6 a0_7 a0_8 a0_9:Int) (a0_10:List Int) : Option R37_ai10rz := match k with | 0 => none | k + 1 => f37_ai10rz_e k a0 a0_1 a0_2 a0_3 a0_4 a0_5 a0_6 a0_7 a0_8 a0_9 a0_10
theorem f37_ai10rz_ok (k:Nat) (a0 a0_1 a0_2 a0_3 a0_4 a0_5 a0_6 a0_7 a0_8 a0_9:Int) (a0_10:List Int) (r:R37_ai10rz) (hF:f37_ai10rz k a0 a0_1 a0_2 a0_3 a0_4 a0_5 a0_6 a0_7 a0_8 a0_9 a0_10 = some r) : CV k 37 [.agg [.p (.int .i64 a0),.p (.int .i64 a0_1),.p (.int .u32 a0_2),.p (.int .i64 a0_3),.p (.int .i64 a0_4),.p (.int .i64 a0_5),.p (.int .i64 a0_6),.p (.int .i64 a0_7),.p (.int .i64 a0_8),.p (.int .i64 a0_9),.sl 1 (rowsOf (encI .u8) a0_10)]] [] = some r.st := by
 cases k with
 | zero => cases hF
 | succ k =>
  unfold CV
  rw [ev_call (F := Try.f37) (c := (nav B37 [])) rfl Try.func37 rfl rfl rfl rfl]
  exact f37_ai10rz_e_ok k a0 a0_1 a0_2 a0_3 a0_4 a0_5 a0_6 a0_7 a0_8 a0_9 a0_10 r hF
end Go.Proofs.YticggdfaehneeaaV