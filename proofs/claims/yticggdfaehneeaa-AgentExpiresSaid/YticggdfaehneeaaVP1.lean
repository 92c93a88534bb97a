/- What the program's functions answer: plain functions,and that the interpreter answers what they do. Written by a program of this session,out of the translation. -/
import Derived.Test.YticggdfaehneeaaVPC
namespace Go.Proofs.YticggdfaehneeaaV
open Go
set_option linter.unusedVariables false
set_option linter.unusedSimpArgs false
set_option maxRecDepth 8000
set_option maxHeartbeats 4000000
-- f7_: f7 heliograph/heliographlaw19.wakes
inductive R7_ where
 | o0 (y:Bool)
noncomputable def R7_.st : R7_ → V × List O × List O
 | .o0 y => (.p (.bool y),[],[])
noncomputable def f7_ (k:Nat) : Option R7_ := ifE (200 ≤ k) (some (.o0 true))
theorem f7__ok (k:Nat) (r:R7_) (hF:f7_ k = some r) : CV k 7 [] [] = some r.st := by
 obtain ⟨h,hF⟩ := ifE_some.1 hF
 cases hF
 exact callV_le h wakes
-- f8_aiirrzn: f8 heliograph/heliographlaw19.large
inductive R8_aiirrzn where
 | o0 (y:Bool)
noncomputable def R8_aiirrzn.st : R8_aiirrzn → V × List O × List O
 | .o0 y => (.p (.bool y),[],[])
inductive R8_aiirrzn_l2 where
 | o0 (y:Bool)
 | o1 (y y_1:Int) (y_2:List T39)
 | o2 (y y_1:Int) (y_2:Bool) (y_3:List T39)
noncomputable def R8_aiirrzn_l2.st : R8_aiirrzn_l2 → Out × St
 | .o0 y => (.ret,(⟨33,[(4,.p (.bool y))],[]⟩ : St))
 | .o1 y y_1 y_2 => (.norm,(⟨33,[(22,.own 30000),(23,.p (.int .i64 y)),(24,.p (.int .i64 y_1))],[(30000,.row true 11 39 (rowsOf encT39 y_2))]⟩ : St))
 | .o2 y y_1 y_2 y_3 => (.exit 0,(⟨33,[(22,.own 30000),(23,.p (.int .i64 y)),(24,.p (.int .i64 y_1)),(25,.p (.bool y_2))],[(30000,.row true 11 39 (rowsOf encT39 y_3))]⟩ : St))
noncomputable def f8_aiirrzn_l2_j2 (k:Nat) (x23 x24:Int) (x31:Bool) (h0_:List T39) : Option R8_aiirrzn_l2 :=
 some (R8_aiirrzn_l2.o1 x23 (IntKind.i64.wrap (x24 + (1:Int))) h0_)
theorem f8_aiirrzn_l2_j2_ok (k:Nat) (x23 x24:Int) (x31:Bool) (h0_:List T39) (r:R8_aiirrzn_l2) (hF:f8_aiirrzn_l2_j2 k x23 x24 x31 h0_ = some r) : EX 8 k (nav B8 [2,2,2,1,2,2,1,2,2]) (⟨33,[(22,.own 30000),(23,.p (.int .i64 x23)),(24,.p (.int .i64 x24)),(31,.p (.bool x31))],[(30000,.row true 11 39 (rowsOf encT39 h0_))]⟩ : St) = some r.st := by
 unfold f8_aiirrzn_l2_j2 at hF
 cases hF
 simp (maxSteps:=999999) (disch:=first|exact D (by decide)|exact K (by kernel_rfl)) only [E,EE,↓reduceIte,simprocAttr,rg B8 [2,2,2,1,2,2,1,2,2] 8 false rfl,hr_8_8,R8_aiirrzn_l2.st]
noncomputable def f8_aiirrzn_l2_j1 (k:Nat) (x23 x24:Int) (x25:Bool) (h0_:List T39) : Option R8_aiirrzn_l2 :=
 ifE ((0:Int) ≤ x24) (
  ifE (x24 < ((List.length h0_) : Int)) (
   Option.bind (h0_[(Int.toNat x24)]?) fun v3 =>
    cond ((decide (((List.length v3.Payload) : Int) > 3000)))
     (some (R8_aiirrzn_l2.o0 true))
     (f8_aiirrzn_l2_j2 k x23 x24 false h0_)))
theorem f8_aiirrzn_l2_j1_ok (k:Nat) (x23 x24:Int) (x25:Bool) (h0_:List T39) (r:R8_aiirrzn_l2) (hF:f8_aiirrzn_l2_j1 k x23 x24 x25 h0_ = some r) : EX 8 k (nav B8 [2,2,1,2,2,1,2,2]) (⟨33,[(22,.own 30000),(23,.p (.int .i64 x23)),(24,.p (.int .i64 x24)),(25,.p (.bool x25))],[(30000,.row true 11 39 (rowsOf encT39 h0_))]⟩ : St) = some r.st := by
 unfold f8_aiirrzn_l2_j1 at hF
 obtain ⟨h1,hF⟩ := ifE_some.1 hF
 obtain ⟨h2,hF⟩ := ifE_some.1 hF
 obtain ⟨v3,h4,hF⟩ := bs hF
 simp (maxSteps:=999999) (disch:=first|exact D (by decide)|exact K (by kernel_rfl)) only [E,EE,↓reduceIte,simprocAttr,xk B8 [2,2,1,2,2,1,2,2] .sq rfl,xk B8 [1,2,2,1,2,2,1,2,2] (.bk 1) rfl,xk B8 [2,1,2,2,1,2,2,1,2,2] .sq rfl,rg B8 [1,2,1,2,2,1,2,2,1,2,2] 5 false rfl,hr_8_5,indexAddrV,t_24,t_39,encT39_eq,xk B8 [2,2,1,2,2,1,2,2,1,2,2] .sq rfl,rg B8 [1,2,2,1,2,2,1,2,2,1,2,2] 6 false rfl,hr_8_6,fieldAddrV,t_29,xk B8 [2,2,2,1,2,2,1,2,2,1,2,2] (.cd 31) rfl,h1,h2,h4]
 rcases cond_some hF with ⟨h5,hF⟩ | ⟨h5,hF⟩
 ·cases hF
  simp (maxSteps:=999999) (disch:=first|exact D (by decide)|exact K (by kernel_rfl)) only [E,EE,↓reduceIte,simprocAttr,xk B8 [2,2,2,2,1,2,2,1,2,2,1,2,2] .sq rfl,rg B8 [1,2,2,2,2,1,2,2,1,2,2,1,2,2] 7 false rfl,hr_8_7,xk B8 [2,2,2,2,2,1,2,2,1,2,2,1,2,2] .rt rfl,R8_aiirrzn_l2.st,h1,h2,h4,h5]
 ·have hJ := f8_aiirrzn_l2_j2_ok k x23 x24 false h0_ _ hF
  simp (maxSteps:=999999) (disch:=first|exact D (by decide)|exact K (by kernel_rfl)) only [E,EE,↓reduceIte,simprocAttr,xk B8 [3,2,2,2,1,2,2,1,2,2,1,2,2] .sk rfl,h1,h2,h4,h5]
  try simp only [NM,EE] at hJ
  exact hJ
noncomputable def f8_aiirrzn_l2_b (k:Nat) (x23 x24:Int) (h0_:List T39) : Option R8_aiirrzn_l2 :=
 cond ((decide (x24 < x23)))
  (f8_aiirrzn_l2_j1 k x23 x24 true h0_)
  (some (R8_aiirrzn_l2.o2 x23 x24 false h0_))
theorem f8_aiirrzn_l2_b_ok (k:Nat) (x23 x24:Int) (h0_:List T39) (r:R8_aiirrzn_l2) (hF:f8_aiirrzn_l2_b k x23 x24 h0_ = some r) : EX 8 k (nav B8 [1,2,2,1,2,2]) (⟨33,[(22,.own 30000),(23,.p (.int .i64 x23)),(24,.p (.int .i64 x24))],[(30000,.row true 11 39 (rowsOf encT39 h0_))]⟩ : St) = some r.st := by
 unfold f8_aiirrzn_l2_b at hF
 simp (maxSteps:=999999) (disch:=first|exact D (by decide)|exact K (by kernel_rfl)) only [E,EE,↓reduceIte,simprocAttr,xk B8 [1,2,2,1,2,2] .sq rfl,rg B8 [1,1,2,2,1,2,2] 4 false rfl,hr_8_4,xk B8 [2,1,2,2,1,2,2] .sq rfl,xk B8 [1,2,1,2,2,1,2,2] (.cd 25) rfl]
 rcases cond_some hF with ⟨h1,hF⟩ | ⟨h1,hF⟩
 ·have hJ := f8_aiirrzn_l2_j1_ok k x23 x24 true h0_ _ hF
  simp (maxSteps:=999999) (disch:=first|exact D (by decide)|exact K (by kernel_rfl)) only [E,EE,↓reduceIte,simprocAttr,xk B8 [2,1,2,1,2,2,1,2,2] .sk rfl,h1]
  try simp only [NM,EE] at hJ
  exact hJ
 ·cases hF
  simp (maxSteps:=999999) (disch:=first|exact D (by decide)|exact K (by kernel_rfl)) only [E,EE,↓reduceIte,simprocAttr,xk B8 [3,1,2,1,2,2,1,2,2] (.ex 0) rfl,R8_aiirrzn_l2.st,h1]
noncomputable def f8_aiirrzn_l2 (k:Nat) : Nat → Int → Int → (List T39) → Option R8_aiirrzn_l2
 | 0,_,_,_ => none
 | n + 1,x23,x24,h0_ => Option.bind (f8_aiirrzn_l2_b k x23 x24 h0_) fun o =>
  match o with
  | .o0 y => some (.o0 y)
  | .o1 y y_1 y_2 => f8_aiirrzn_l2 k n y y_1 y_2
  | .o2 y y_1 y_2 y_3 => some (.o2 y y_1 y_2 y_3)
theorem f8_aiirrzn_l2_ok (k n:Nat) : ∀ (x23 x24:Int) (h0_:List T39) (r:R8_aiirrzn_l2) (hF:f8_aiirrzn_l2 k n x23 x24 h0_ = some r) (σ:St) (hσ:headR (hints.head 8 4) (hints.canon 8 4) σ = some (⟨33,[(22,.own 30000),(23,.p (.int .i64 x23)),(24,.p (.int .i64 x24))],[(30000,.row true 11 39 (rowsOf encT39 h0_))]⟩ : St)),LP 8 k (nav B8 [1,2,2,1,2,2]) n σ = some r.st := by
 induction n with
 | zero => intro x23 x24 h0_ r hF; cases hF
 | succ n ih =>
  intro x23 x24 h0_ r hF σ hσ
  rw [f8_aiirrzn_l2] at hF
  obtain ⟨o,h,hF⟩ := Option.bind_eq_some_iff.1 hF
  have hB := f8_aiirrzn_l2_b_ok k x23 x24 h0_ o h
  unfold LP at ih ⊢
  unfold EX at hB
  rw [loopK_succ,show firstReg (nav B8 [1,2,2,1,2,2]) = 4 from rfl,hσ,headK_some,hB]
  cases o with
  | o0 y => cases hF; rfl
  | o1 y y_1 y_2 =>
   refine ih y y_1 y_2 r hF _ ?_
   simp (maxSteps:=999999) (disch:=first|exact D (by decide)|exact K (by kernel_rfl)) only [E,EE,↓reduceIte,simprocAttr,hh_8_4,hc_8_4]
  | o2 y y_1 y_2 y_3 => cases hF; rfl
noncomputable def f8_aiirrzn_j3 (k:Nat) (x23 x24:Int) (x25:Bool) (h0_:List T39) : Option R8_aiirrzn :=
 some (R8_aiirrzn.o0 false)
theorem f8_aiirrzn_j3_ok (k:Nat) (x23 x24:Int) (x25:Bool) (h0_:List T39) (r:R8_aiirrzn) (hF:f8_aiirrzn_j3 k x23 x24 x25 h0_ = some r) : finK Try.prog Try.f8 0 (EX 8 k (nav B8 [2,2,2]) (⟨33,[(22,.own 30000),(23,.p (.int .i64 x23)),(24,.p (.int .i64 x24)),(25,.p (.bool x25))],[(30000,.row true 11 39 (rowsOf encT39 h0_))]⟩ : St)) = some r.st := by
 unfold f8_aiirrzn_j3 at hF
 cases hF
 simp (maxSteps:=999999) (disch:=first|exact D (by decide)|exact K (by kernel_rfl)) only [E,EE,↓reduceIte,simprocAttr,xk B8 [2,2,2] .sq rfl,rg B8 [1,2,2,2] 9 false rfl,hr_8_9,xk B8 [2,2,2,2] .rt rfl,finK_norm,finK_ret,fin8,R8_aiirrzn.st]
noncomputable def f8_aiirrzn_j1 (k:Nat) (x16:Bool) (s0:List T39) (m2 m2_1:Int) (m2_2:List T65) (m2_3:List T39) : Option R8_aiirrzn :=
 ifE ((List.length m2_3) * 104 ≤ roomy) (
  ifE (((List.length m2_3) + (List.length s0)) * 104 ≤ roomy) (
   Option.bind (f8_aiirrzn_l2 k k ((List.length (m2_3 ++ s0)) : Int) 0 (m2_3 ++ s0)) fun o3 =>
    match o3 with
    | .o0 v6 =>
     some (R8_aiirrzn.o0 v6)
    | .o1 _ _ _ =>
     none
    | .o2 v7 v8 v9 v10 =>
     f8_aiirrzn_j3 k v7 v8 v9 v10))
theorem f8_aiirrzn_j1_ok (k:Nat) (x16:Bool) (s0:List T39) (m2 m2_1:Int) (m2_2:List T65) (m2_3:List T39) (r:R8_aiirrzn) (hF:f8_aiirrzn_j1 k x16 s0 m2 m2_1 m2_2 m2_3 = some r) : finK Try.prog Try.f8 0 (EX 8 k (nav B8 [2,2]) (⟨33,[(1,.own 700000),(2,.ptr 2 0),(16,.p (.bool x16))],[(700000,.row true 11 39 (rowsOf encT39 s0)),(2,.box 26 [.p (.int .i64 m2),.p (.int .u32 m2_1),.sl 4 (rowsOf encT65 m2_2),.sl 11 (rowsOf encT39 m2_3)])]⟩ : St)) = some r.st := by
 unfold f8_aiirrzn_j1 at hF
 obtain ⟨h1,hF⟩ := ifE_some.1 hF
 obtain ⟨h2,hF⟩ := ifE_some.1 hF
 obtain ⟨o3,h4,hF⟩ := bs hF
 have hc5 := f8_aiirrzn_l2_ok k k ((List.length (m2_3 ++ s0)) : Int) 0 (m2_3 ++ s0) _ h4
 simp (maxSteps:=999999) (disch:=first|exact D (by decide)|exact K (by kernel_rfl)) only [E,EE,↓reduceIte,simprocAttr,xk B8 [2,2] .sq rfl,xk B8 [1,2,2] .sq rfl,rg B8 [1,1,2,2] 3 false rfl,hr_8_3,buildSliceV,fillRows,sm_39,t_24,t_39,fieldAddrV,t_26,appendV,content,xk B8 [2,1,2,2] (.bk 0) rfl,xk B8 [2,2,1,2,2] .lp rfl,hh_8_4,hc_8_4,h1,h2]
 (try simp only [NM,EE] at hc5)
 rw [hc5 _ (by simp (maxSteps:=999999) (disch:=first|exact D (by decide)|exact K (by kernel_rfl)) only [E,EE,↓reduceIte,simprocAttr,hh_8_4,hc_8_4,h1,h2])]
 clear hc5
 cases o3 with
 | o0 v6 =>
  (try dsimp only at hF)
  cases hF
  simp (maxSteps:=999999) (disch:=first|exact D (by decide)|exact K (by kernel_rfl)) only [E,EE,↓reduceIte,simprocAttr,R8_aiirrzn_l2.st,finK_norm,finK_ret,fin8,R8_aiirrzn.st,h1,h2]
 | o1 _ _ _ =>
  (try dsimp only at hF)
  cases hF
 | o2 v7 v8 v9 v10 =>
  (try dsimp only at hF)
  have hJ := f8_aiirrzn_j3_ok k v7 v8 v9 v10 _ hF
  simp (maxSteps:=999999) (disch:=first|exact D (by decide)|exact K (by kernel_rfl)) only [E,EE,↓reduceIte,simprocAttr,R8_aiirrzn_l2.st,h1,h2]
  try simp only [NM,EE] at hJ
  exact hJ
noncomputable def f8_aiirrzn_e (k:Nat) (a0 a0_1:Int) (a0_2:List T65) (a0_3:List T39) : Option R8_aiirrzn :=
 cond ((decide (((List.length a0_2) : Int) > 300)))
  (some (R8_aiirrzn.o0 true))
  (
   cond ((decide (((List.length a0_3) : Int) > 60)))
    (some (R8_aiirrzn.o0 true))
    (f8_aiirrzn_j1 k false [] a0 a0_1 a0_2 a0_3))
theorem f8_aiirrzn_e_ok (k:Nat) (a0 a0_1:Int) (a0_2:List T65) (a0_3:List T39) (r:R8_aiirrzn) (hF:f8_aiirrzn_e k a0 a0_1 a0_2 a0_3 = some r) : finK Try.prog Try.f8 0 (EX 8 k (nav B8 []) (⟨33,[(0,.agg [.p (.int .i64 a0),.p (.int .u32 a0_1),.sl 4 (rowsOf encT65 a0_2),.sl 11 (rowsOf encT39 a0_3)]),(1,V.nil)],[]⟩ : St)) = some r.st := by
 unfold f8_aiirrzn_e at hF
 simp (maxSteps:=999999) (disch:=first|exact D (by decide)|exact K (by kernel_rfl)) only [E,EE,↓reduceIte,simprocAttr,xk B8 [] .sq rfl,rg B8 [1] 0 false rfl,hr_8_0,xk B8 [2] .sq rfl,xk B8 [1,2] .sq rfl,rg B8 [1,1,2] 1 false rfl,hr_8_1,fieldAddrV,t_26,t_23]
 rcases cond_some hF with ⟨h1,hF⟩ | ⟨h1,hF⟩
 ·cases hF
  simp (maxSteps:=999999) (disch:=first|exact D (by decide)|exact K (by kernel_rfl)) only [E,EE,↓reduceIte,simprocAttr,xk B8 [2,1,2] (.cd 16) rfl,xk B8 [2,2,1,2] .sq rfl,rg B8 [1,2,2,1,2] 2 false rfl,hr_8_2,xk B8 [2,2,2,1,2] .rt rfl,finK_norm,finK_ret,fin8,R8_aiirrzn.st,h1]
 ·simp (maxSteps:=999999) (disch:=first|exact D (by decide)|exact K (by kernel_rfl)) only [E,EE,↓reduceIte,simprocAttr,fieldAddrV,t_26,t_24,xk B8 [2,1,2] (.cd 16) rfl,h1]
  rcases cond_some hF with ⟨h2,hF⟩ | ⟨h2,hF⟩
  ·cases hF
   simp (maxSteps:=999999) (disch:=first|exact D (by decide)|exact K (by kernel_rfl)) only [E,EE,↓reduceIte,simprocAttr,xk B8 [2,2,1,2] .sq rfl,rg B8 [1,2,2,1,2] 2 false rfl,hr_8_2,xk B8 [2,2,2,1,2] .rt rfl,finK_norm,finK_ret,fin8,R8_aiirrzn.st,h1,h2]
  ·have hJ := f8_aiirrzn_j1_ok k false [] a0 a0_1 a0_2 a0_3 _ hF
   simp (maxSteps:=999999) (disch:=first|exact D (by decide)|exact K (by kernel_rfl)) only [E,EE,↓reduceIte,simprocAttr,xk B8 [3,2,1,2] .sk rfl,h1,h2]
   try simp only [NM,EE] at hJ
   exact hJ
noncomputable def f8_aiirrzn (k:Nat) (a0 a0_1:Int) (a0_2:List T65) (a0_3:List T39) : Option R8_aiirrzn := match k with | 0 => none | k + 1 => f8_aiirrzn_e k a0 a0_1 a0_2 a0_3
theorem f8_aiirrzn_ok (k:Nat) (a0 a0_1:Int) (a0_2:List T65) (a0_3:List T39) (r:R8_aiirrzn) (hF:f8_aiirrzn k a0 a0_1 a0_2 a0_3 = some r) : CV k 8 [.agg [.p (.int .i64 a0),.p (.int .u32 a0_1),.sl 4 (rowsOf encT65 a0_2),.sl 11 (rowsOf encT39 a0_3)],V.nil] [] = some r.st := by
 cases k with
 | zero => cases hF
 | succ k =>
  unfold CV
  rw [ev_call (F := Try.f8) (c := (nav B8 [])) rfl Try.func8 rfl rfl rfl rfl]
  exact f8_aiirrzn_e_ok k a0 a0_1 a0_2 a0_3 r hF
-- f39_rr: f39 slices.Equal[[]heliograph/api.Seen,heliograph/api.Seen]
inductive R39_rr where
 | o0 (y:Bool)
noncomputable def R39_rr.st : R39_rr → V × List O × List O
 | .o0 y => (.p (.bool y),[],[])
inductive R39_rr_l2 where
 | o0 (y:Bool)
 | o1 (y y_1:List T65) (y_2 y_3:Int)
 | o2 (y y_1:List T65) (y_2 y_3:Int) (y_4:Bool)
noncomputable def R39_rr_l2.st : R39_rr_l2 → Out × St
 | .o0 y => (.ret,(⟨26,[(4,.p (.bool y))],[]⟩ : St))
 | .o1 y y_1 y_2 y_3 => (.norm,(⟨26,[(0,.sl 4 (rowsOf encT65 y)),(1,.sl 4 (rowsOf encT65 y_1)),(12,.p (.int .i64 y_2)),(13,.p (.int .i64 y_3))],[]⟩ : St))
 | .o2 y y_1 y_2 y_3 y_4 => (.exit 0,(⟨26,[(0,.sl 4 (rowsOf encT65 y)),(1,.sl 4 (rowsOf encT65 y_1)),(12,.p (.int .i64 y_2)),(13,.p (.int .i64 y_3)),(14,.p (.bool y_4))],[]⟩ : St))
noncomputable def f39_rr_l2_j2 (k:Nat) (x0 x1:List T65) (x12 x13:Int) (x24:Bool) : Option R39_rr_l2 :=
 some (R39_rr_l2.o1 x0 x1 x12 (IntKind.i64.wrap (x13 + (1:Int))))
theorem f39_rr_l2_j2_ok (k:Nat) (x0 x1:List T65) (x12 x13:Int) (x24:Bool) (r:R39_rr_l2) (hF:f39_rr_l2_j2 k x0 x1 x12 x13 x24 = some r) : EX 39 k (nav B39 [2,2,2,1,2,2,1,2,2]) (⟨26,[(0,.sl 4 (rowsOf encT65 x0)),(1,.sl 4 (rowsOf encT65 x1)),(12,.p (.int .i64 x12)),(13,.p (.int .i64 x13)),(24,.p (.bool x24))],[]⟩ : St) = some r.st := by
 unfold f39_rr_l2_j2 at hF
 cases hF
 simp (maxSteps:=999999) (disch:=first|exact D (by decide)|exact K (by kernel_rfl)) only [E,EE,↓reduceIte,simprocAttr,rg B39 [2,2,2,1,2,2,1,2,2] 8 false rfl,hr_39_8,R39_rr_l2.st]
noncomputable def f39_rr_l2_j1 (k:Nat) (x0 x1:List T65) (x12 x13:Int) (x14:Bool) : Option R39_rr_l2 :=
 ifE ((0:Int) ≤ x13) (
  Option.bind (x0[(Int.toNat x13)]?) fun v2 =>
   Option.bind (x1[(Int.toNat x13)]?) fun v4 =>
    cond ((!(((v2.Key_Source == v4.Key_Source) && ((v2.Key_Seq == v4.Key_Seq) && (v2.Key_Offset == v4.Key_Offset))) && (v2.N == v4.N))))
     (some (R39_rr_l2.o0 false))
     (f39_rr_l2_j2 k x0 x1 x12 x13 false))
theorem f39_rr_l2_j1_ok (k:Nat) (x0 x1:List T65) (x12 x13:Int) (x14:Bool) (r:R39_rr_l2) (hF:f39_rr_l2_j1 k x0 x1 x12 x13 x14 = some r) : EX 39 k (nav B39 [2,2,1,2,2,1,2,2]) (⟨26,[(0,.sl 4 (rowsOf encT65 x0)),(1,.sl 4 (rowsOf encT65 x1)),(12,.p (.int .i64 x12)),(13,.p (.int .i64 x13)),(14,.p (.bool x14))],[]⟩ : St) = some r.st := by
 unfold f39_rr_l2_j1 at hF
 obtain ⟨h1,hF⟩ := ifE_some.1 hF
 obtain ⟨v2,h3,hF⟩ := bs hF
 obtain ⟨v4,h5,hF⟩ := bs hF
 simp (maxSteps:=999999) (disch:=first|exact D (by decide)|exact K (by kernel_rfl)) only [E,EE,↓reduceIte,simprocAttr,xk B39 [2,2,1,2,2,1,2,2] .sq rfl,xk B39 [1,2,2,1,2,2,1,2,2] (.bk 1) rfl,xk B39 [2,1,2,2,1,2,2,1,2,2] .sq rfl,rg B39 [1,2,1,2,2,1,2,2,1,2,2] 5 false rfl,hr_39_5,xk B39 [2,2,1,2,2,1,2,2,1,2,2] .sq rfl,rg B39 [1,2,2,1,2,2,1,2,2,1,2,2] 6 true rfl,hr_39_6,indexAddrV,t_23,t_65,encT65_eq,ag_65,ag_63,t_63,t_3,t_22,xk B39 [2,2,2,1,2,2,1,2,2,1,2,2] (.cd 24) rfl,h1,h3,h5]
 rcases cond_some hF with ⟨h6,hF⟩ | ⟨h6,hF⟩
 ·cases hF
  simp (maxSteps:=999999) (disch:=first|exact D (by decide)|exact K (by kernel_rfl)) only [E,EE,↓reduceIte,simprocAttr,xk B39 [2,2,2,2,1,2,2,1,2,2,1,2,2] .sq rfl,rg B39 [1,2,2,2,2,1,2,2,1,2,2,1,2,2] 7 false rfl,hr_39_7,xk B39 [2,2,2,2,2,1,2,2,1,2,2,1,2,2] .rt rfl,R39_rr_l2.st,h1,h3,h5,h6]
 ·have hJ := f39_rr_l2_j2_ok k x0 x1 x12 x13 false _ hF
  simp (maxSteps:=999999) (disch:=first|exact D (by decide)|exact K (by kernel_rfl)) only [E,EE,↓reduceIte,simprocAttr,xk B39 [3,2,2,2,1,2,2,1,2,2,1,2,2] .sk rfl,h1,h3,h5,h6]
  try simp only [NM,EE] at hJ
  exact hJ
noncomputable def f39_rr_l2_b (k:Nat) (x0 x1:List T65) (x12 x13:Int) : Option R39_rr_l2 :=
 cond ((decide (x13 < x12)))
  (f39_rr_l2_j1 k x0 x1 x12 x13 true)
  (some (R39_rr_l2.o2 x0 x1 x12 x13 false))
theorem f39_rr_l2_b_ok (k:Nat) (x0 x1:List T65) (x12 x13:Int) (r:R39_rr_l2) (hF:f39_rr_l2_b k x0 x1 x12 x13 = some r) : EX 39 k (nav B39 [1,2,2,1,2,2]) (⟨26,[(0,.sl 4 (rowsOf encT65 x0)),(1,.sl 4 (rowsOf encT65 x1)),(12,.p (.int .i64 x12)),(13,.p (.int .i64 x13))],[]⟩ : St) = some r.st := by
 unfold f39_rr_l2_b at hF
 simp (maxSteps:=999999) (disch:=first|exact D (by decide)|exact K (by kernel_rfl)) only [E,EE,↓reduceIte,simprocAttr,xk B39 [1,2,2,1,2,2] .sq rfl,rg B39 [1,1,2,2,1,2,2] 4 false rfl,hr_39_4,xk B39 [2,1,2,2,1,2,2] .sq rfl,xk B39 [1,2,1,2,2,1,2,2] (.cd 14) rfl]
 rcases cond_some hF with ⟨h1,hF⟩ | ⟨h1,hF⟩
 ·have hJ := f39_rr_l2_j1_ok k x0 x1 x12 x13 true _ hF
  simp (maxSteps:=999999) (disch:=first|exact D (by decide)|exact K (by kernel_rfl)) only [E,EE,↓reduceIte,simprocAttr,xk B39 [2,1,2,1,2,2,1,2,2] .sk rfl,h1]
  try simp only [NM,EE] at hJ
  exact hJ
 ·cases hF
  simp (maxSteps:=999999) (disch:=first|exact D (by decide)|exact K (by kernel_rfl)) only [E,EE,↓reduceIte,simprocAttr,xk B39 [3,1,2,1,2,2,1,2,2] (.ex 0) rfl,R39_rr_l2.st,h1]
noncomputable def f39_rr_l2 (k:Nat) : Nat → (List T65) → (List T65) → Int → Int → Option R39_rr_l2
 | 0,_,_,_,_ => none
 | n + 1,x0,x1,x12,x13 => Option.bind (f39_rr_l2_b k x0 x1 x12 x13) fun o =>
  match o with
  | .o0 y => some (.o0 y)
  | .o1 y y_1 y_2 y_3 => f39_rr_l2 k n y y_1 y_2 y_3
  | .o2 y y_1 y_2 y_3 y_4 => some (.o2 y y_1 y_2 y_3 y_4)
theorem f39_rr_l2_ok (k n:Nat) : ∀ (x0 x1:List T65) (x12 x13:Int) (r:R39_rr_l2) (hF:f39_rr_l2 k n x0 x1 x12 x13 = some r) (σ:St) (hσ:headR (hints.head 39 4) (hints.canon 39 4) σ = some (⟨26,[(0,.sl 4 (rowsOf encT65 x0)),(1,.sl 4 (rowsOf encT65 x1)),(12,.p (.int .i64 x12)),(13,.p (.int .i64 x13))],[]⟩ : St)),LP 39 k (nav B39 [1,2,2,1,2,2]) n σ = some r.st := by
 induction n with
 | zero => intro x0 x1 x12 x13 r hF; cases hF
 | succ n ih =>
  intro x0 x1 x12 x13 r hF σ hσ
  rw [f39_rr_l2] at hF
  obtain ⟨o,h,hF⟩ := Option.bind_eq_some_iff.1 hF
  have hB := f39_rr_l2_b_ok k x0 x1 x12 x13 o h
  unfold LP at ih ⊢
  unfold EX at hB
  rw [loopK_succ,show firstReg (nav B39 [1,2,2,1,2,2]) = 4 from rfl,hσ,headK_some,hB]
  cases o with
  | o0 y => cases hF; rfl
  | o1 y y_1 y_2 y_3 =>
   refine ih y y_1 y_2 y_3 r hF _ ?_
   simp (maxSteps:=999999) (disch:=first|exact D (by decide)|exact K (by kernel_rfl)) only [E,EE,↓reduceIte,simprocAttr,hh_39_4,hc_39_4]
  | o2 y y_1 y_2 y_3 y_4 => cases hF; rfl
noncomputable def f39_rr_j3 (k:Nat) (x0 x1:List T65) (x12 x13:Int) (x14:Bool) : Option R39_rr :=
 some (R39_rr.o0 true)
theorem f39_rr_j3_ok (k:Nat) (x0 x1:List T65) (x12 x13:Int) (x14:Bool) (r:R39_rr) (hF:f39_rr_j3 k x0 x1 x12 x13 x14 = some r) : finK Try.prog Try.f39 0 (EX 39 k (nav B39 [2,2,2]) (⟨26,[(0,.sl 4 (rowsOf encT65 x0)),(1,.sl 4 (rowsOf encT65 x1)),(12,.p (.int .i64 x12)),(13,.p (.int .i64 x13)),(14,.p (.bool x14))],[]⟩ : St)) = some r.st := by
 unfold f39_rr_j3 at hF
 cases hF
 simp (maxSteps:=999999) (disch:=first|exact D (by decide)|exact K (by kernel_rfl)) only [E,EE,↓reduceIte,simprocAttr,xk B39 [2,2,2] .sq rfl,rg B39 [1,2,2,2] 9 false rfl,hr_39_9,xk B39 [2,2,2,2] .rt rfl,finK_norm,finK_ret,fin39,R39_rr.st]
noncomputable def f39_rr_j1 (k:Nat) (x0 x1:List T65) (x10:Bool) : Option R39_rr :=
 Option.bind (f39_rr_l2 k k x0 x1 ((List.length x0) : Int) 0) fun o1 =>
  match o1 with
  | .o0 v4 =>
   some (R39_rr.o0 v4)
  | .o1 _ _ _ _ =>
   none
  | .o2 v5 v6 v7 v8 v9 =>
   f39_rr_j3 k v5 v6 v7 v8 v9
theorem f39_rr_j1_ok (k:Nat) (x0 x1:List T65) (x10:Bool) (r:R39_rr) (hF:f39_rr_j1 k x0 x1 x10 = some r) : finK Try.prog Try.f39 0 (EX 39 k (nav B39 [2,2]) (⟨26,[(0,.sl 4 (rowsOf encT65 x0)),(1,.sl 4 (rowsOf encT65 x1)),(10,.p (.bool x10))],[]⟩ : St)) = some r.st := by
 unfold f39_rr_j1 at hF
 obtain ⟨o1,h2,hF⟩ := bs hF
 have hc3 := f39_rr_l2_ok k k x0 x1 ((List.length x0) : Int) 0 _ h2
 simp (maxSteps:=999999) (disch:=first|exact D (by decide)|exact K (by kernel_rfl)) only [E,EE,↓reduceIte,simprocAttr,xk B39 [2,2] .sq rfl,xk B39 [1,2,2] .sq rfl,rg B39 [1,1,2,2] 3 false rfl,hr_39_3,t_23,xk B39 [2,1,2,2] (.bk 0) rfl,xk B39 [2,2,1,2,2] .lp rfl,hh_39_4,hc_39_4]
 (try simp only [NM,EE] at hc3)
 rw [hc3 _ (by simp (maxSteps:=999999) (disch:=first|exact D (by decide)|exact K (by kernel_rfl)) only [E,EE,↓reduceIte,simprocAttr,hh_39_4,hc_39_4])]
 clear hc3
 cases o1 with
 | o0 v4 =>
  (try dsimp only at hF)
  cases hF
  simp (maxSteps:=999999) (disch:=first|exact D (by decide)|exact K (by kernel_rfl)) only [E,EE,↓reduceIte,simprocAttr,R39_rr_l2.st,finK_norm,finK_ret,fin39,R39_rr.st]
 | o1 _ _ _ _ =>
  (try dsimp only at hF)
  cases hF
 | o2 v5 v6 v7 v8 v9 =>
  (try dsimp only at hF)
  have hJ := f39_rr_j3_ok k v5 v6 v7 v8 v9 _ hF
  simp (maxSteps:=999999) (disch:=first|exact D (by decide)|exact K (by kernel_rfl)) only [E,EE,↓reduceIte,simprocAttr,R39_rr_l2.st]
  try simp only [NM,EE] at hJ
  exact hJ
noncomputable def f39_rr_e (k:Nat) (a0 a1:List T65) : Option R39_rr :=
 cond ((((List.length a0) : Int) != ((List.length a1) : Int)))
  (some (R39_rr.o0 false))
  (f39_rr_j1 k a0 a1 false)
theorem f39_rr_e_ok (k:Nat) (a0 a1:List T65) (r:R39_rr) (hF:f39_rr_e k a0 a1 = some r) : finK Try.prog Try.f39 0 (EX 39 k (nav B39 []) (⟨26,[(0,.sl 4 (rowsOf encT65 a0)),(1,.sl 4 (rowsOf encT65 a1))],[]⟩ : St)) = some r.st := by
 unfold f39_rr_e at hF
 simp (maxSteps:=999999) (disch:=first|exact D (by decide)|exact K (by kernel_rfl)) only [E,EE,↓reduceIte,simprocAttr,xk B39 [] .sq rfl,rg B39 [1] 0 false rfl,hr_39_0,xk B39 [2] .sq rfl,xk B39 [1,2] .sq rfl,rg B39 [1,1,2] 1 false rfl,hr_39_1,t_23,xk B39 [2,1,2] (.cd 10) rfl]
 rcases cond_some hF with ⟨h1,hF⟩ | ⟨h1,hF⟩
 ·cases hF
  simp (maxSteps:=999999) (disch:=first|exact D (by decide)|exact K (by kernel_rfl)) only [E,EE,↓reduceIte,simprocAttr,xk B39 [2,2,1,2] .sq rfl,rg B39 [1,2,2,1,2] 2 false rfl,hr_39_2,xk B39 [2,2,2,1,2] .rt rfl,finK_norm,finK_ret,fin39,R39_rr.st,h1]
 ·have hJ := f39_rr_j1_ok k a0 a1 false _ hF
  simp (maxSteps:=999999) (disch:=first|exact D (by decide)|exact K (by kernel_rfl)) only [E,EE,↓reduceIte,simprocAttr,xk B39 [3,2,1,2] .sk rfl,h1]
  try simp only [NM,EE] at hJ
  exact hJ
noncomputable def f39_rr (k:Nat) (a0 a1:List T65) : Option R39_rr := match k with | 0 => none | k + 1 => f39_rr_e k a0 a1
theorem f39_rr_ok (k:Nat) (a0 a1:List T65) (r:R39_rr) (hF:f39_rr k a0 a1 = some r) : CV k 39 [.sl 4 (rowsOf encT65 a0),.sl 4 (rowsOf encT65 a1)] [] = some r.st := by
 cases k with
 | zero => cases hF
 | succ k =>
  unfold CV
  rw [ev_call (F := Try.f39) (c := (nav B39 [])) rfl Try.func39 rfl rfl rfl rfl]
  exact f39_rr_e_ok k a0 a1 r hF
-- f38_rr: f38 slices.Equal[[]byte,byte]
inductive R38_rr where
 | o0 (y:Bool)
noncomputable def R38_rr.st : R38_rr → V × List O × List O
 | .o0 y => (.p (.bool y),[],[])
inductive R38_rr_l2 where
 | o0 (y:Bool)
 | o1 (y y_1:List Int) (y_2 y_3:Int)
 | o2 (y y_1:List Int) (y_2 y_3:Int) (y_4:Bool)
noncomputable def R38_rr_l2.st : R38_rr_l2 → Out × St
 | .o0 y => (.ret,(⟨26,[(4,.p (.bool y))],[]⟩ : St))
 | .o1 y y_1 y_2 y_3 => (.norm,(⟨26,[(0,.sl 1 (rowsOf (encI .u8) y)),(1,.sl 1 (rowsOf (encI .u8) y_1)),(12,.p (.int .i64 y_2)),(13,.p (.int .i64 y_3))],[]⟩ : St))
 | .o2 y y_1 y_2 y_3 y_4 => (.exit 0,(⟨26,[(0,.sl 1 (rowsOf (encI .u8) y)),(1,.sl 1 (rowsOf (encI .u8) y_1)),(12,.p (.int .i64 y_2)),(13,.p (.int .i64 y_3)),(14,.p (.bool y_4))],[]⟩ : St))
noncomputable def f38_rr_l2_j2 (k:Nat) (x0 x1:List Int) (x12 x13:Int) (x24:Bool) : Option R38_rr_l2 :=
 some (R38_rr_l2.o1 x0 x1 x12 (IntKind.i64.wrap (x13 + (1:Int))))
theorem f38_rr_l2_j2_ok (k:Nat) (x0 x1:List Int) (x12 x13:Int) (x24:Bool) (r:R38_rr_l2) (hF:f38_rr_l2_j2 k x0 x1 x12 x13 x24 = some r) : EX 38 k (nav B38 [2,2,2,1,2,2,1,2,2]) (⟨26,[(0,.sl 1 (rowsOf (encI .u8) x0)),(1,.sl 1 (rowsOf (encI .u8) x1)),(12,.p (.int .i64 x12)),(13,.p (.int .i64 x13)),(24,.p (.bool x24))],[]⟩ : St) = some r.st := by
 unfold f38_rr_l2_j2 at hF
 cases hF
 simp (maxSteps:=999999) (disch:=first|exact D (by decide)|exact K (by kernel_rfl)) only [E,EE,↓reduceIte,simprocAttr,rg B38 [2,2,2,1,2,2,1,2,2] 8 false rfl,hr_38_8,R38_rr_l2.st]
noncomputable def f38_rr_l2_j1 (k:Nat) (x0 x1:List Int) (x12 x13:Int) (x14:Bool) : Option R38_rr_l2 :=
 ifE ((0:Int) ≤ x13) (
  Option.bind (x0[(Int.toNat x13)]?) fun v2 =>
   Option.bind (x1[(Int.toNat x13)]?) fun v4 =>
    cond ((v2 != v4))
     (some (R38_rr_l2.o0 false))
     (f38_rr_l2_j2 k x0 x1 x12 x13 false))
theorem f38_rr_l2_j1_ok (k:Nat) (x0 x1:List Int) (x12 x13:Int) (x14:Bool) (r:R38_rr_l2) (hF:f38_rr_l2_j1 k x0 x1 x12 x13 x14 = some r) : EX 38 k (nav B38 [2,2,1,2,2,1,2,2]) (⟨26,[(0,.sl 1 (rowsOf (encI .u8) x0)),(1,.sl 1 (rowsOf (encI .u8) x1)),(12,.p (.int .i64 x12)),(13,.p (.int .i64 x13)),(14,.p (.bool x14))],[]⟩ : St) = some r.st := by
 unfold f38_rr_l2_j1 at hF
 obtain ⟨h1,hF⟩ := ifE_some.1 hF
 obtain ⟨v2,h3,hF⟩ := bs hF
 obtain ⟨v4,h5,hF⟩ := bs hF
 simp (maxSteps:=999999) (disch:=first|exact D (by decide)|exact K (by kernel_rfl)) only [E,EE,↓reduceIte,simprocAttr,xk B38 [2,2,1,2,2,1,2,2] .sq rfl,xk B38 [1,2,2,1,2,2,1,2,2] (.bk 1) rfl,xk B38 [2,1,2,2,1,2,2,1,2,2] .sq rfl,rg B38 [1,2,1,2,2,1,2,2,1,2,2] 5 false rfl,hr_38_5,xk B38 [2,2,1,2,2,1,2,2,1,2,2] .sq rfl,rg B38 [1,2,2,1,2,2,1,2,2,1,2,2] 6 true rfl,hr_38_6,indexAddrV,t_29,t_5,encI_eq,xk B38 [2,2,2,1,2,2,1,2,2,1,2,2] (.cd 24) rfl,h1,h3,h5]
 rcases cond_some hF with ⟨h6,hF⟩ | ⟨h6,hF⟩
 ·cases hF
  simp (maxSteps:=999999) (disch:=first|exact D (by decide)|exact K (by kernel_rfl)) only [E,EE,↓reduceIte,simprocAttr,xk B38 [2,2,2,2,1,2,2,1,2,2,1,2,2] .sq rfl,rg B38 [1,2,2,2,2,1,2,2,1,2,2,1,2,2] 7 false rfl,hr_38_7,xk B38 [2,2,2,2,2,1,2,2,1,2,2,1,2,2] .rt rfl,R38_rr_l2.st,h1,h3,h5,h6]
 ·have hJ := f38_rr_l2_j2_ok k x0 x1 x12 x13 false _ hF
  simp (maxSteps:=999999) (disch:=first|exact D (by decide)|exact K (by kernel_rfl)) only [E,EE,↓reduceIte,simprocAttr,xk B38 [3,2,2,2,1,2,2,1,2,2,1,2,2] .sk rfl,h1,h3,h5,h6]
  try simp only [NM,EE] at hJ
  exact hJ
noncomputable def f38_rr_l2_b (k:Nat) (x0 x1:List Int) (x12 x13:Int) : Option R38_rr_l2 :=
 cond ((decide (x13 < x12)))
  (f38_rr_l2_j1 k x0 x1 x12 x13 true)
  (some (R38_rr_l2.o2 x0 x1 x12 x13 false))
theorem f38_rr_l2_b_ok (k:Nat) (x0 x1:List Int) (x12 x13:Int) (r:R38_rr_l2) (hF:f38_rr_l2_b k x0 x1 x12 x13 = some r) : EX 38 k (nav B38 [1,2,2,1,2,2]) (⟨26,[(0,.sl 1 (rowsOf (encI .u8) x0)),(1,.sl 1 (rowsOf (encI .u8) x1)),(12,.p (.int .i64 x12)),(13,.p (.int .i64 x13))],[]⟩ : St) = some r.st := by
 unfold f38_rr_l2_b at hF
 simp (maxSteps:=999999) (disch:=first|exact D (by decide)|exact K (by kernel_rfl)) only [E,EE,↓reduceIte,simprocAttr,xk B38 [1,2,2,1,2,2] .sq rfl,rg B38 [1,1,2,2,1,2,2] 4 false rfl,hr_38_4,xk B38 [2,1,2,2,1,2,2] .sq rfl,xk B38 [1,2,1,2,2,1,2,2] (.cd 14) rfl]
 rcases cond_some hF with ⟨h1,hF⟩ | ⟨h1,hF⟩
 ·have hJ := f38_rr_l2_j1_ok k x0 x1 x12 x13 true _ hF
  simp (maxSteps:=999999) (disch:=first|exact D (by decide)|exact K (by kernel_rfl)) only [E,EE,↓reduceIte,simprocAttr,xk B38 [2,1,2,1,2,2,1,2,2] .sk rfl,h1]
  try simp only [NM,EE] at hJ
  exact hJ
 ·cases hF
  simp (maxSteps:=999999) (disch:=first|exact D (by decide)|exact K (by kernel_rfl)) only [E,EE,↓reduceIte,simprocAttr,xk B38 [3,1,2,1,2,2,1,2,2] (.ex 0) rfl,R38_rr_l2.st,h1]
noncomputable def f38_rr_l2 (k:Nat) : Nat → (List Int) → (List Int) → Int → Int → Option R38_rr_l2
 | 0,_,_,_,_ => none
 | n + 1,x0,x1,x12,x13 => Option.bind (f38_rr_l2_b k x0 x1 x12 x13) fun o =>
  match o with
  | .o0 y => some (.o0 y)
  | .o1 y y_1 y_2 y_3 => f38_rr_l2 k n y y_1 y_2 y_3
  | .o2 y y_1 y_2 y_3 y_4 => some (.o2 y y_1 y_2 y_3 y_4)
theorem f38_rr_l2_ok (k n:Nat) : ∀ (x0 x1:List Int) (x12 x13:Int) (r:R38_rr_l2) (hF:f38_rr_l2 k n x0 x1 x12 x13 = some r) (σ:St) (hσ:headR (hints.head 38 4) (hints.canon 38 4) σ = some (⟨26,[(0,.sl 1 (rowsOf (encI .u8) x0)),(1,.sl 1 (rowsOf (encI .u8) x1)),(12,.p (.int .i64 x12)),(13,.p (.int .i64 x13))],[]⟩ : St)),LP 38 k (nav B38 [1,2,2,1,2,2]) n σ = some r.st := by
 induction n with
 | zero => intro x0 x1 x12 x13 r hF; cases hF
 | succ n ih =>
  intro x0 x1 x12 x13 r hF σ hσ
  rw [f38_rr_l2] at hF
  obtain ⟨o,h,hF⟩ := Option.bind_eq_some_iff.1 hF
  have hB := f38_rr_l2_b_ok k x0 x1 x12 x13 o h
  unfold LP at ih ⊢
  unfold EX at hB
  rw [loopK_succ,show firstReg (nav B38 [1,2,2,1,2,2]) = 4 from rfl,hσ,headK_some,hB]
  cases o with
  | o0 y => cases hF; rfl
  | o1 y y_1 y_2 y_3 =>
   refine ih y y_1 y_2 y_3 r hF _ ?_
   simp (maxSteps:=999999) (disch:=first|exact D (by decide)|exact K (by kernel_rfl)) only [E,EE,↓reduceIte,simprocAttr,hh_38_4,hc_38_4]
  | o2 y y_1 y_2 y_3 y_4 => cases hF; rfl
noncomputable def f38_rr_j3 (k:Nat) (x0 x1:List Int) (x12 x13:Int) (x14:Bool) : Option R38_rr :=
 some (R38_rr.o0 true)
theorem f38_rr_j3_ok (k:Nat) (x0 x1:List Int) (x12 x13:Int) (x14:Bool) (r:R38_rr) (hF:f38_rr_j3 k x0 x1 x12 x13 x14 = some r) : finK Try.prog Try.f38 0 (EX 38 k (nav B38 [2,2,2]) (⟨26,[(0,.sl 1 (rowsOf (encI .u8) x0)),(1,.sl 1 (rowsOf (encI .u8) x1)),(12,.p (.int .i64 x12)),(13,.p (.int .i64 x13)),(14,.p (.bool x14))],[]⟩ : St)) = some r.st := by
 unfold f38_rr_j3 at hF
 cases hF
 simp (maxSteps:=999999) (disch:=first|exact D (by decide)|exact K (by kernel_rfl)) only [E,EE,↓reduceIte,simprocAttr,xk B38 [2,2,2] .sq rfl,rg B38 [1,2,2,2] 9 false rfl,hr_38_9,xk B38 [2,2,2,2] .rt rfl,finK_norm,finK_ret,fin38,R38_rr.st]
noncomputable def f38_rr_j1 (k:Nat) (x0 x1:List Int) (x10:Bool) : Option R38_rr :=
 Option.bind (f38_rr_l2 k k x0 x1 ((List.length x0) : Int) 0) fun o1 =>
  match o1 with
  | .o0 v4 =>
   some (R38_rr.o0 v4)
  | .o1 _ _ _ _ =>
   none
  | .o2 v5 v6 v7 v8 v9 =>
   f38_rr_j3 k v5 v6 v7 v8 v9
theorem f38_rr_j1_ok (k:Nat) (x0 x1:List Int) (x10:Bool) (r:R38_rr) (hF:f38_rr_j1 k x0 x1 x10 = some r) : finK Try.prog Try.f38 0 (EX 38 k (nav B38 [2,2]) (⟨26,[(0,.sl 1 (rowsOf (encI .u8) x0)),(1,.sl 1 (rowsOf (encI .u8) x1)),(10,.p (.bool x10))],[]⟩ : St)) = some r.st := by
 unfold f38_rr_j1 at hF
 obtain ⟨o1,h2,hF⟩ := bs hF
 have hc3 := f38_rr_l2_ok k k x0 x1 ((List.length x0) : Int) 0 _ h2
 simp (maxSteps:=999999) (disch:=first|exact D (by decide)|exact K (by kernel_rfl)) only [E,EE,↓reduceIte,simprocAttr,xk B38 [2,2] .sq rfl,xk B38 [1,2,2] .sq rfl,rg B38 [1,1,2,2] 3 false rfl,hr_38_3,t_29,xk B38 [2,1,2,2] (.bk 0) rfl,xk B38 [2,2,1,2,2] .lp rfl,hh_38_4,hc_38_4]
 (try simp only [NM,EE] at hc3)
 rw [hc3 _ (by simp (maxSteps:=999999) (disch:=first|exact D (by decide)|exact K (by kernel_rfl)) only [E,EE,↓reduceIte,simprocAttr,hh_38_4,hc_38_4])]
 clear hc3
 cases o1 with
 | o0 v4 =>
  (try dsimp only at hF)
  cases hF
  simp (maxSteps:=999999) (disch:=first|exact D (by decide)|exact K (by kernel_rfl)) only [E,EE,↓reduceIte,simprocAttr,R38_rr_l2.st,finK_norm,finK_ret,fin38,R38_rr.st]
 | o1 _ _ _ _ =>
  (try dsimp only at hF)
  cases hF
 | o2 v5 v6 v7 v8 v9 =>
  (try dsimp only at hF)
  have hJ := f38_rr_j3_ok k v5 v6 v7 v8 v9 _ hF
  simp (maxSteps:=999999) (disch:=first|exact D (by decide)|exact K (by kernel_rfl)) only [E,EE,↓reduceIte,simprocAttr,R38_rr_l2.st]
  try simp only [NM,EE] at hJ
  exact hJ
noncomputable def f38_rr_e (k:Nat) (a0 a1:List Int) : Option R38_rr :=
 cond ((((List.length a0) : Int) != ((List.length a1) : Int)))
  (some (R38_rr.o0 false))
  (f38_rr_j1 k a0 a1 false)
theorem f38_rr_e_ok (k:Nat) (a0 a1:List Int) (r:R38_rr) (hF:f38_rr_e k a0 a1 = some r) : finK Try.prog Try.f38 0 (EX 38 k (nav B38 []) (⟨26,[(0,.sl 1 (rowsOf (encI .u8) a0)),(1,.sl 1 (rowsOf (encI .u8) a1))],[]⟩ : St)) = some r.st := by
 unfold f38_rr_e at hF
 simp (maxSteps:=999999) (disch:=first|exact D (by decide)|exact K (by kernel_rfl)) only [E,EE,↓reduceIte,simprocAttr,xk B38 [] .sq rfl,rg B38 [1] 0 false rfl,hr_38_0,xk B38 [2] .sq rfl,xk B38 [1,2] .sq rfl,rg B38 [1,1,2] 1 false rfl,hr_38_1,t_29,xk B38 [2,1,2] (.cd 10) rfl]
 rcases cond_some hF with ⟨h1,hF⟩ | ⟨h1,hF⟩
 ·cases hF
  simp (maxSteps:=999999) (disch:=first|exact D (by decide)|exact K (by kernel_rfl)) only [E,EE,↓reduceIte,simprocAttr,xk B38 [2,2,1,2] .sq rfl,rg B38 [1,2,2,1,2] 2 false rfl,hr_38_2,xk B38 [2,2,2,1,2] .rt rfl,finK_norm,finK_ret,fin38,R38_rr.st,h1]
 ·have hJ := f38_rr_j1_ok k a0 a1 false _ hF
  simp (maxSteps:=999999) (disch:=first|exact D (by decide)|exact K (by kernel_rfl)) only [E,EE,↓reduceIte,simprocAttr,xk B38 [3,2,1,2] .sk rfl,h1]
  try simp only [NM,EE] at hJ
  exact hJ
noncomputable def f38_rr (k:Nat) (a0 a1:List Int) : Option R38_rr := match k with | 0 => none | k + 1 => f38_rr_e k a0 a1
theorem f38_rr_ok (k:Nat) (a0 a1:List Int) (r:R38_rr) (hF:f38_rr k a0 a1 = some r) : CV k 38 [.sl 1 (rowsOf (encI .u8) a0),.sl 1 (rowsOf (encI .u8) a1)] [] = some r.st := by
 cases k with
 | zero => cases hF
 | succ k =>
  unfold CV
  rw [ev_call (F := Try.f38) (c := (nav B38 [])) rfl Try.func38 rfl rfl rfl rfl]
  exact f38_rr_e_ok k a0 a1 r hF
-- f20_rr: f20 heliograph/octet.Equal
inductive R20_rr where
 | o0 (y:Bool)
noncomputable def R20_rr.st : R20_rr → V × List O × List O
 | .o0 y => (.p (.bool y),[],[])
noncomputable def f20_rr_e (k:Nat) (a0 a1:List Int) : Option R20_rr :=
 Option.bind (f38_rr k a0 a1) fun o1 =>
  match o1 with
  | .o0 v4 =>
   some (R20_rr.o0 v4)
theorem f20_rr_e_ok (k:Nat) (a0 a1:List Int) (r:R20_rr) (hF:f20_rr_e k a0 a1 = some r) : finK Try.prog Try.f20 0 (EX 20 k (nav B20 []) (⟨8,[(0,.sl 1 (rowsOf (encI .u8) a0)),(1,.sl 1 (rowsOf (encI .u8) a1))],[]⟩ : St)) = some r.st := by
 unfold f20_rr_e at hF
 obtain ⟨o1,h2,hF⟩ := bs hF
 have hc3 := f38_rr_ok k a0 a1 _ h2
 cases o1 with
 | o0 v4 =>
  (try dsimp only at hF)
  (try simp only [NM,EE,R38_rr.st] at hc3)
  cases hF
  simp (maxSteps:=999999) (disch:=first|exact D (by decide)|exact K (by kernel_rfl)) only [E,EE,↓reduceIte,simprocAttr,xk B20 [] .sq rfl,rg B20 [1] 0 false rfl,hr_20_0,xk B20 [2] .sq rfl,rg B20 [1,2] 1 false rfl,hr_20_1,callStep,CL,gv,List.contains,xk B20 [2,2] .rt rfl,finK_norm,finK_ret,fin20,R20_rr.st,hc3]
noncomputable def f20_rr (k:Nat) (a0 a1:List Int) : Option R20_rr := match k with | 0 => none | k + 1 => f20_rr_e k a0 a1
theorem f20_rr_ok (k:Nat) (a0 a1:List Int) (r:R20_rr) (hF:f20_rr k a0 a1 = some r) : CV k 20 [.sl 1 (rowsOf (encI .u8) a0),.sl 1 (rowsOf (encI .u8) a1)] [] = some r.st := by
 cases k with
 | zero => cases hF
 | succ k =>
  unfold CV
  rw [ev_call (F := Try.f20) (c := (nav B20 [])) rfl Try.func20 rfl rfl rfl rfl]
  exact f20_rr_e_ok k a0 a1 r hF
-- f66_ai10rz: f66 heliograph/bundle.same$1
inductive R66_ai10rz where
 | o0 (y y_1 y_2 y_3 y_4 y_5 y_6 y_7 y_8 y_9:Int)
noncomputable def R66_ai10rz.st : R66_ai10rz → V × List O × List O
 | .o0 y y_1 y_2 y_3 y_4 y_5 y_6 y_7 y_8 y_9 => (.agg [.p (.int .i64 y),.p (.int .i64 y_1),.p (.int .i64 y_2),.p (.int .i64 y_3),.p (.int .i64 y_4),.p (.int .i64 y_5),.p (.int .i64 y_6),.p (.int .i64 y_7),.p (.int .i64 y_8),.p (.int .u32 y_9)],[],[])
noncomputable def f66_ai10rz_e (k:Nat) (a0 a0_1 a0_2 a0_3 a0_4 a0_5 a0_6 a0_7 a0_8 a0_9:Int) (a0_10:List Int) : Option R66_ai10rz :=
 some (R66_ai10rz.o0 a0 a0_1 a0_3 a0_4 a0_5 a0_6 a0_7 a0_8 a0_9 a0_2)
theorem f66_ai10rz_e_ok (k:Nat) (a0 a0_1 a0_2 a0_3 a0_4 a0_5 a0_6 a0_7 a0_8 a0_9:Int) (a0_10:List Int) (r:R66_ai10rz) (hF:f66_ai10rz_e k a0 a0_1 a0_2 a0_3 a0_4 a0_5 a0_6 a0_7 a0_8 a0_9 a0_10 = some r) : finK Try.prog Try.f66 0 (EX 66 k (nav B66 []) (⟨24,[(0,.agg [.p (.int .i64 a0),.p (.int .i64 a0_1),.p (.int .u32 a0_2),.p (.int .i64 a0_3),.p (.int .i64 a0_4),.p (.int .i64 a0_5),.p (.int .i64 a0_6),.p (.int .i64 a0_7),.p (.int .i64 a0_8),.p (.int .i64 a0_9),.sl 1 (rowsOf (encI .u8) a0_10)])],[]⟩ : St)) = some r.st := by
 unfold f66_ai10rz_e at hF
 cases hF
 simp (maxSteps:=999999) (disch:=first|exact D (by decide)|exact K (by kernel_rfl)) only [E,EE,↓reduceIte,simprocAttr,xk B66 [] .sq rfl,rg B66 [1] 0 false rfl,hr_66_0,t_106,xk B66 [2] .sq rfl,rg B66 [1,2] 1 false rfl,hr_66_1,fieldAddrV,t_39,t_3,t_22,bl_106,xk B66 [2,2] .rt rfl,finK_norm,finK_ret,fin66,R66_ai10rz.st]
noncomputable def f66_ai10rz (k:Nat) (a0 a0_1 a0_2 a0_3 a0_4 a0_5 a0_6 a0_7 a0_8 a0_9:Int) (a0_10:List Int) : Option R66_ai10rz := match k with | 0 => none | k + 1 => f66_ai10rz_e k a0 a0_1 a0_2 a0_3 a0_4 a0_5 a0_6 a0_7 a0_8 a0_9 a0_10
theorem f66_ai10rz_ok (k:Nat) (a0 a0_1 a0_2 a0_3 a0_4 a0_5 a0_6 a0_7 a0_8 a0_9:Int) (a0_10:List Int) (r:R66_ai10rz) (hF:f66_ai10rz k a0 a0_1 a0_2 a0_3 a0_4 a0_5 a0_6 a0_7 a0_8 a0_9 a0_10 = some r) : CV k 66 [.agg [.p (.int .i64 a0),.p (.int .i64 a0_1),.p (.int .u32 a0_2),.p (.int .i64 a0_3),.p (.int .i64 a0_4),.p (.int .i64 a0_5),.p (.int .i64 a0_6),.p (.int .i64 a0_7),.p (.int .i64 a0_8),.p (.int .i64 a0_9),.sl 1 (rowsOf (encI .u8) a0_10)]] [] = some r.st := by
 cases k with
 | zero => cases hF
 | succ k =>
  unfold CV
  rw [ev_call (F := Try.f66) (c := (nav B66 [])) rfl Try.func66 rfl rfl rfl rfl]
  exact f66_ai10rz_e_ok k a0 a0_1 a0_2 a0_3 a0_4 a0_5 a0_6 a0_7 a0_8 a0_9 a0_10 r hF
-- f60_ai10rzai10rz: f60 heliograph/bundle.same
inductive R60_ai10rzai10rz where
 | o0 (y:Bool)
noncomputable def R60_ai10rzai10rz.st : R60_ai10rzai10rz → V × List O × List O
 | .o0 y => (.p (.bool y),[],[])
noncomputable def f60_ai10rzai10rz_e (k:Nat) (a0 a0_1 a0_2 a0_3 a0_4 a0_5 a0_6 a0_7 a0_8 a0_9:Int) (a0_10:List Int) (a1 a1_1 a1_2 a1_3 a1_4 a1_5 a1_6 a1_7 a1_8 a1_9:Int) (a1_10:List Int) : Option R60_ai10rzai10rz :=
 Option.bind (f66_ai10rz k a0 a0_1 a0_2 a0_3 a0_4 a0_5 a0_6 a0_7 a0_8 a0_9 a0_10) fun o1 =>
  match o1 with
  | .o0 v4 v5 v6 v7 v8 v9 v10 v11 v12 v13 =>
   Option.bind (f66_ai10rz k a1 a1_1 a1_2 a1_3 a1_4 a1_5 a1_6 a1_7 a1_8 a1_9 a1_10) fun o14 =>
    match o14 with
    | .o0 v17 v18 v19 v20 v21 v22 v23 v24 v25 v26 =>
     some (R60_ai10rzai10rz.o0 (((v4 == v17) && ((v5 == v18) && ((v6 == v19) && ((v7 == v20) && ((v8 == v21) && ((v9 == v22) && ((v10 == v23) && ((v11 == v24) && ((v12 == v25) && (v13 == v26))))))))))))
theorem f60_ai10rzai10rz_e_ok (k:Nat) (a0 a0_1 a0_2 a0_3 a0_4 a0_5 a0_6 a0_7 a0_8 a0_9:Int) (a0_10:List Int) (a1 a1_1 a1_2 a1_3 a1_4 a1_5 a1_6 a1_7 a1_8 a1_9:Int) (a1_10:List Int) (r:R60_ai10rzai10rz) (hF:f60_ai10rzai10rz_e k a0 a0_1 a0_2 a0_3 a0_4 a0_5 a0_6 a0_7 a0_8 a0_9 a0_10 a1 a1_1 a1_2 a1_3 a1_4 a1_5 a1_6 a1_7 a1_8 a1_9 a1_10 = some r) : finK Try.prog Try.f60 0 (EX 60 k (nav B60 []) (⟨13,[(0,.agg [.p (.int .i64 a0),.p (.int .i64 a0_1),.p (.int .u32 a0_2),.p (.int .i64 a0_3),.p (.int .i64 a0_4),.p (.int .i64 a0_5),.p (.int .i64 a0_6),.p (.int .i64 a0_7),.p (.int .i64 a0_8),.p (.int .i64 a0_9),.sl 1 (rowsOf (encI .u8) a0_10)]),(1,.agg [.p (.int .i64 a1),.p (.int .i64 a1_1),.p (.int .u32 a1_2),.p (.int .i64 a1_3),.p (.int .i64 a1_4),.p (.int .i64 a1_5),.p (.int .i64 a1_6),.p (.int .i64 a1_7),.p (.int .i64 a1_8),.p (.int .i64 a1_9),.sl 1 (rowsOf (encI .u8) a1_10)])],[]⟩ : St)) = some r.st := by
 unfold f60_ai10rzai10rz_e at hF
 obtain ⟨o1,h2,hF⟩ := bs hF
 have hc3 := f66_ai10rz_ok k a0 a0_1 a0_2 a0_3 a0_4 a0_5 a0_6 a0_7 a0_8 a0_9 a0_10 _ h2
 cases o1 with
 | o0 v4 v5 v6 v7 v8 v9 v10 v11 v12 v13 =>
  (try dsimp only at hF)
  (try simp only [NM,EE,R66_ai10rz.st] at hc3)
  obtain ⟨o14,h15,hF⟩ := bs hF
  have hc16 := f66_ai10rz_ok k a1 a1_1 a1_2 a1_3 a1_4 a1_5 a1_6 a1_7 a1_8 a1_9 a1_10 _ h15
  cases o14 with
  | o0 v17 v18 v19 v20 v21 v22 v23 v24 v25 v26 =>
   (try dsimp only at hF)
   (try simp only [NM,EE,R66_ai10rz.st] at hc16)
   cases hF
   simp (maxSteps:=999999) (disch:=first|exact D (by decide)|exact K (by kernel_rfl)) only [E,EE,↓reduceIte,simprocAttr,xk B60 [] .sq rfl,rg B60 [1] 0 false rfl,hr_60_0,xk B60 [2] .sq rfl,rg B60 [1,2] 1 false rfl,hr_60_1,xk B60 [2,2] .sq rfl,rg B60 [1,2,2] 2 true rfl,hr_60_2,t_39,callStep,CL,gv,List.contains,t_106,ag_106,t_3,t_22,xk B60 [2,2,2] .rt rfl,finK_norm,finK_ret,fin60,R60_ai10rzai10rz.st,hc3,hc16]
noncomputable def f60_ai10rzai10rz (k:Nat) (a0 a0_1 a0_2 a0_3 a0_4 a0_5 a0_6 a0_7 a0_8 a0_9:Int) (a0_10:List Int) (a1 a1_1 a1_2 a1_3 a1_4 a1_5 a1_6 a1_7 a1_8 a1_9:Int) (a1_10:List Int) : Option R60_ai10rzai10rz := match k with | 0 => none | k + 1 => f60_ai10rzai10rz_e k a0 a0_1 a0_2 a0_3 a0_4 a0_5 a0_6 a0_7 a0_8 a0_9 a0_10 a1 a1_1 a1_2 a1_3 a1_4 a1_5 a1_6 a1_7 a1_8 a1_9 a1_10
theorem f60_ai10rzai10rz_ok (k:Nat) (a0 a0_1 a0_2 a0_3 a0_4 a0_5 a0_6 a0_7 a0_8 a0_9:Int) (a0_10:List Int) (a1 a1_1 a1_2 a1_3 a1_4 a1_5 a1_6 a1_7 a1_8 a1_9:Int) (a1_10:List Int) (r:R60_ai10rzai10rz) (hF:f60_ai10rzai10rz k a0 a0_1 a0_2 a0_3 a0_4 a0_5 a0_6 a0_7 a0_8 a0_9 a0_10 a1 a1_1 a1_2 a1_3 a1_4 a1_5 a1_6 a1_7 a1_8 a1_9 a1_10 = some r) : CV k 60 [.agg [.p (.int .i64 a0),.p (.int .i64 a0_1),.p (.int .u32 a0_2),.p (.int .i64 a0_3),.p (.int .i64 a0_4),.p (.int .i64 a0_5),.p (.int .i64 a0_6),.p (.int .i64 a0_7),.p (.int .i64 a0_8),.p (.int .i64 a0_9),.sl 1 (rowsOf (encI .u8) a0_10)],.agg [.p (.int .i64 a1),.p (.int .i64 a1_1),.p (.int .u32 a1_2),.p (.int .i64 a1_3),.p (.int .i64 a1_4),.p (.int .i64 a1_5),.p (.int .i64 a1_6),.p (.int .i64 a1_7),.p (.int .i64 a1_8),.p (.int .i64 a1_9),.sl 1 (rowsOf (encI .u8) a1_10)]] [] = some r.st := by
 cases k with
 | zero => cases hF
 | succ k =>
  unfold CV
  rw [ev_call (F := Try.f60) (c := (nav B60 [])) rfl Try.func60 rfl rfl rfl rfl]
  exact f60_ai10rzai10rz_e_ok k a0 a0_1 a0_2 a0_3 a0_4 a0_5 a0_6 a0_7 a0_8 a0_9 a0_10 a1 a1_1 a1_2 a1_3 a1_4 a1_5 a1_6 a1_7 a1_8 a1_9 a1_10 r hF
-- f41_ai10rzai10rz: f41 heliograph/bundle.Same
inductive R41_ai10rzai10rz where
 | o0 (y:Bool)
noncomputable def R41_ai10rzai10rz.st : R41_ai10rzai10rz → V × List O × List O
 | .o0 y => (.p (.bool y),[],[])
noncomputable def f41_ai10rzai10rz_e (k:Nat) (a0 a0_1 a0_2 a0_3 a0_4 a0_5 a0_6 a0_7 a0_8 a0_9:Int) (a0_10:List Int) (a1 a1_1 a1_2 a1_3 a1_4 a1_5 a1_6 a1_7 a1_8 a1_9:Int) (a1_10:List Int) : Option R41_ai10rzai10rz :=
 Option.bind (f20_rr k a0_10 a1_10) fun o1 =>
  match o1 with
  | .o0 v4 =>
   cond (v4)
    (
     Option.bind (f60_ai10rzai10rz k a0 a0_1 a0_2 a0_3 a0_4 a0_5 a0_6 a0_7 a0_8 a0_9 [] a1 a1_1 a1_2 a1_3 a1_4 a1_5 a1_6 a1_7 a1_8 a1_9 []) fun o6 =>
      match o6 with
      | .o0 v9 =>
       some (R41_ai10rzai10rz.o0 v9))
    (some (R41_ai10rzai10rz.o0 false))
theorem f41_ai10rzai10rz_e_ok (k:Nat) (a0 a0_1 a0_2 a0_3 a0_4 a0_5 a0_6 a0_7 a0_8 a0_9:Int) (a0_10:List Int) (a1 a1_1 a1_2 a1_3 a1_4 a1_5 a1_6 a1_7 a1_8 a1_9:Int) (a1_10:List Int) (r:R41_ai10rzai10rz) (hF:f41_ai10rzai10rz_e k a0 a0_1 a0_2 a0_3 a0_4 a0_5 a0_6 a0_7 a0_8 a0_9 a0_10 a1 a1_1 a1_2 a1_3 a1_4 a1_5 a1_6 a1_7 a1_8 a1_9 a1_10 = some r) : finK Try.prog Try.f41 0 (EX 41 k (nav B41 []) (⟨21,[(0,.agg [.p (.int .i64 a0),.p (.int .i64 a0_1),.p (.int .u32 a0_2),.p (.int .i64 a0_3),.p (.int .i64 a0_4),.p (.int .i64 a0_5),.p (.int .i64 a0_6),.p (.int .i64 a0_7),.p (.int .i64 a0_8),.p (.int .i64 a0_9),.sl 1 (rowsOf (encI .u8) a0_10)]),(1,.agg [.p (.int .i64 a1),.p (.int .i64 a1_1),.p (.int .u32 a1_2),.p (.int .i64 a1_3),.p (.int .i64 a1_4),.p (.int .i64 a1_5),.p (.int .i64 a1_6),.p (.int .i64 a1_7),.p (.int .i64 a1_8),.p (.int .i64 a1_9),.sl 1 (rowsOf (encI .u8) a1_10)])],[]⟩ : St)) = some r.st := by
 unfold f41_ai10rzai10rz_e at hF
 obtain ⟨o1,h2,hF⟩ := bs hF
 have hc3 := f20_rr_ok k a0_10 a1_10 _ h2
 cases o1 with
 | o0 v4 =>
  (try dsimp only at hF)
  (try simp only [NM,EE,R20_rr.st] at hc3)
  simp (maxSteps:=999999) (disch:=first|exact D (by decide)|exact K (by kernel_rfl)) only [E,EE,↓reduceIte,simprocAttr,xk B41 [] .sq rfl,rg B41 [1] 0 false rfl,hr_41_0,xk B41 [2] .sq rfl,rg B41 [1,2] 1 true rfl,hr_41_1,t_39,xk B41 [2,2] .sq rfl,rg B41 [1,2,2] 2 false rfl,hr_41_2,fieldAddrV,t_29,xk B41 [2,2,2] .sq rfl,rg B41 [1,2,2,2] 3 false rfl,hr_41_3,callStep,CL,gv,List.contains,hc3]
  rcases cond_some hF with ⟨h5,hF⟩ | ⟨h5,hF⟩
  ·obtain ⟨o6,h7,hF⟩ := bs hF
   have hc8 := f60_ai10rzai10rz_ok k a0 a0_1 a0_2 a0_3 a0_4 a0_5 a0_6 a0_7 a0_8 a0_9 [] a1 a1_1 a1_2 a1_3 a1_4 a1_5 a1_6 a1_7 a1_8 a1_9 [] _ h7
   cases o6 with
   | o0 v9 =>
    (try dsimp only at hF)
    (try simp only [NM,EE,R60_ai10rzai10rz.st] at hc8)
    cases hF
    simp (maxSteps:=999999) (disch:=first|exact D (by decide)|exact K (by kernel_rfl)) only [E,EE,↓reduceIte,simprocAttr,t_39,callStep,CL,gv,List.contains,xk B41 [2,2,2,2] .rt rfl,finK_norm,finK_ret,fin41,R41_ai10rzai10rz.st,hc3,h5,hc8]
  ·cases hF
   simp (maxSteps:=999999) (disch:=first|exact D (by decide)|exact K (by kernel_rfl)) only [E,EE,↓reduceIte,simprocAttr,xk B41 [2,2,2,2] .rt rfl,finK_norm,finK_ret,fin41,R41_ai10rzai10rz.st,hc3,h5]
noncomputable def f41_ai10rzai10rz (k:Nat) (a0 a0_1 a0_2 a0_3 a0_4 a0_5 a0_6 a0_7 a0_8 a0_9:Int) (a0_10:List Int) (a1 a1_1 a1_2 a1_3 a1_4 a1_5 a1_6 a1_7 a1_8 a1_9:Int) (a1_10:List Int) : Option R41_ai10rzai10rz := match k with | 0 => none | k + 1 => f41_ai10rzai10rz_e k a0 a0_1 a0_2 a0_3 a0_4 a0_5 a0_6 a0_7 a0_8 a0_9 a0_10 a1 a1_1 a1_2 a1_3 a1_4 a1_5 a1_6 a1_7 a1_8 a1_9 a1_10
theorem f41_ai10rzai10rz_ok (k:Nat) (a0 a0_1 a0_2 a0_3 a0_4 a0_5 a0_6 a0_7 a0_8 a0_9:Int) (a0_10:List Int) (a1 a1_1 a1_2 a1_3 a1_4 a1_5 a1_6 a1_7 a1_8 a1_9:Int) (a1_10:List Int) (r:R41_ai10rzai10rz) (hF:f41_ai10rzai10rz k a0 a0_1 a0_2 a0_3 a0_4 a0_5 a0_6 a0_7 a0_8 a0_9 a0_10 a1 a1_1 a1_2 a1_3 a1_4 a1_5 a1_6 a1_7 a1_8 a1_9 a1_10 = some r) : CV k 41 [.agg [.p (.int .i64 a0),.p (.int .i64 a0_1),.p (.int .u32 a0_2),.p (.int .i64 a0_3),.p (.int .i64 a0_4),.p (.int .i64 a0_5),.p (.int .i64 a0_6),.p (.int .i64 a0_7),.p (.int .i64 a0_8),.p (.int .i64 a0_9),.sl 1 (rowsOf (encI .u8) a0_10)],.agg [.p (.int .i64 a1),.p (.int .i64 a1_1),.p (.int .u32 a1_2),.p (.int .i64 a1_3),.p (.int .i64 a1_4),.p (.int .i64 a1_5),.p (.int .i64 a1_6),.p (.int .i64 a1_7),.p (.int .i64 a1_8),.p (.int .i64 a1_9),.sl 1 (rowsOf (encI .u8) a1_10)]] [] = some r.st := by
 cases k with
 | zero => cases hF
 | succ k =>
  unfold CV
  rw [ev_call (F := Try.f41) (c := (nav B41 [])) rfl Try.func41 rfl rfl rfl rfl]
  exact f41_ai10rzai10rz_e_ok k a0 a0_1 a0_2 a0_3 a0_4 a0_5 a0_6 a0_7 a0_8 a0_9 a0_10 a1 a1_1 a1_2 a1_3 a1_4 a1_5 a1_6 a1_7 a1_8 a1_9 a1_10 r hF
end Go.Proofs.YticggdfaehneeaaV