/- What the program's functions answer: plain functions,and that the interpreter answers what they do. Written by a program of this session,out of the translation. -/
import Derived.Test.YticggdfaehneeaaVPC
namespace Go.Proofs.YticggdfaehneeaaV
open Go
set_option linter.unusedVariables false
set_option linter.unusedSimpArgs false
set_option maxRecDepth 8000
set_option maxHeartbeats 4000000
-- f7_: f7 heliograph/heliographlaw19.wakes
inductive R7_ where
 | o0 (y : Bool)
noncomputable def R7_.st : R7_ → V × List O × List O
 | .o0 y => (.p (.bool y),[],[])
noncomputable def f7_ (k : Nat) : Option R7_ := ifE (200 ≤ k) (some (.o0 true))
theorem f7__ok (k : Nat) (r : R7_) (hF : f7_ k = some r) : CV k 7 [] [] = some r.st := by
 obtain ⟨h,hF⟩ := ifE_some.1 hF
 cases hF
 exact callV_le h wakes
-- f8_aiirrzn: f8 heliograph/heliographlaw19.large
inductive R8_aiirrzn where
 | o0 (y : Bool)
noncomputable def R8_aiirrzn.st : R8_aiirrzn → V × List O × List O
 | .o0 y => (.p (.bool y),[],[])
inductive R8_aiirrzn_l2 where
 | o0 (y : Bool)
 | o1 (y y_1 : Int) (y_2 : List T39)
 | o2 (y y_1 : Int) (y_2 : Bool) (y_3 : List T39)
noncomputable def R8_aiirrzn_l2.st : R8_aiirrzn_l2 → Out × St
 | .o0 y => (.ret,(⟨33,[(4,.p (.bool y))],[]⟩ : St))
 | .o1 y y_1 y_2 => (.norm,(⟨33,[(22,.own 30000),(23,.p (.int .i64 y)),(24,.p (.int .i64 y_1))],[(30000,.row true 11 39 (rowsOf encT39 y_2))]⟩ : St))
 | .o2 y y_1 y_2 y_3 => (.exit 0,(⟨33,[(22,.own 30000),(23,.p (.int .i64 y)),(24,.p (.int .i64 y_1)),(25,.p (.bool y_2))],[(30000,.row true 11 39 (rowsOf encT39 y_3))]⟩ : St))
noncomputable def f8_aiirrzn_l2_j2 (k : Nat) (x23 x24 : Int) (x31 : Bool) (h0_ : List T39) : Option R8_aiirrzn_l2 :=
 some (R8_aiirrzn_l2.o1 x23 (IntKind.i64.wrap (x24 + (1 : Int))) h0_)
theorem f8_aiirrzn_l2_j2_ok (k : Nat) (x23 x24 : Int) (x31 : Bool) (h0_ : List T39) (r : R8_aiirrzn_l2) (hF : f8_aiirrzn_l2_j2 k x23 x24 x31 h0_ = some r) : EX 8 k (nav B8 [2,2,2,1,2,2,1,2,2]) (⟨33,[(22,.own 30000),(23,.p (.int .i64 x23)),(24,.p (.int .i64 x24)),(31,.p (.bool x31))],[(30000,.row true 11 39 (rowsOf encT39 h0_))]⟩ : St) = some r.st := by
 unfold f8_aiirrzn_l2_j2 at hF
 cases hF
 simp (maxSteps:=999999) (disch:=first|exact D (by decide)|exact K (by kernel_rfl)) only [E,EE,↓reduceIte,simprocAttr,rg B8 [2,2,2,1,2,2,1,2,2] 8 false rfl,hr_8_8,R8_aiirrzn_l2.st]
noncomputable def f8_aiirrzn_l2_j1 (k : Nat) (x23 x24 : Int) (x25 : Bool) (h0_ : List T39) : Option R8_aiirrzn_l2 :=
 ifE ((0 : Int) ≤ x24) (
  ifE (x24 < ((List.length h0_) : Int)) (
   Option.bind (h0_[(Int.toNat x24)]?) fun v3 =>
    cond ((decide (((List.length v3.Payload) : Int) > 3000)))
     (some (R8_aiirrzn_l2.o0 true))
     (f8_aiirrzn_l2_j2 k x23 x24 false h0_)))
theorem f8_aiirrzn_l2_j1_ok (k : Nat) (x23 x24 : Int) (x25 : Bool) (h0_ : List T39) (r : R8_aiirrzn_l2) (hF : f8_aiirrzn_l2_j1 k x23 x24 x25 h0_ = some r) : EX 8 k (nav B8 [2,2,1,2,2,1,2,2]) (⟨33,[(22,.own 30000),(23,.p (.int .i64 x23)),(24,.p (.int .i64 x24)),(25,.p (.bool x25))],[(30000,.row true 11 39 (rowsOf encT39 h0_))]⟩ : St) = some r.st := by
 unfold f8_aiirrzn_l2_j1 at hF
 obtain ⟨h1,hF⟩ := ifE_some.1 hF
 obtain ⟨h2,hF⟩ := ifE_some.1 hF
 obtain ⟨v3,h4,hF⟩ := bs hF
 simp (maxSteps:=999999) (disch:=first|exact D (by decide)|exact K (by kernel_rfl)) only [E,EE,↓reduceIte,simprocAttr,xk B8 [2,2,1,2,2,1,2,2] .sq rfl,xk B8 [1,2,2,1,2,2,1,2,2] (.bk 1) rfl,xk B8 [2,1,2,2,1,2,2,1,2,2] .sq rfl,rg B8 [1,2,1,2,2,1,2,2,1,2,2] 5 false rfl,hr_8_5,indexAddrV,t_24,t_39,encT39_eq,xk B8 [2,2,1,2,2,1,2,2,1,2,2] .sq rfl,rg B8 [1,2,2,1,2,2,1,2,2,1,2,2] 6 false rfl,hr_8_6,fieldAddrV,t_29,xk B8 [2,2,2,1,2,2,1,2,2,1,2,2] (.cd 31) rfl,h1,h2,h4]
 rcases cond_some hF with ⟨h5,hF⟩ | ⟨h5,hF⟩
 ·cases hF
  simp (maxSteps:=999999) (disch:=first|exact D (by decide)|exact K (by kernel_rfl)) only [E,EE,↓reduceIte,simprocAttr,xk B8 [2,2,2,2,1,2,2,1,2,2,1,2,2] .sq rfl,rg B8 [1,2,2,2,2,1,2,2,1,2,2,1,2,2] 7 false rfl,hr_8_7,xk B8 [2,2,2,2,2,1,2,2,1,2,2,1,2,2] .rt rfl,R8_aiirrzn_l2.st,h1,h2,h4,h5]
 ·have hJ := f8_aiirrzn_l2_j2_ok k x23 x24 false h0_ _ hF
  simp (maxSteps:=999999) (disch:=first|exact D (by decide)|exact K (by kernel_rfl)) only [E,EE,↓reduceIte,simprocAttr,xk B8 [3,2,2,2,1,2,2,1,2,2,1,2,2] .sk rfl,h1,h2,h4,h5]
  try simp only [NM,EE] at hJ
  exact hJ
noncomputable def f8_aiirrzn_l2_b (k : Nat) (x23 x24 : Int) (h0_ : List T39) : Option R8_aiirrzn_l2 :=
 cond ((decide (x24 < x23)))
  (f8_aiirrzn_l2_j1 k x23 x24 true h0_)
  (some (R8_aiirrzn_l2.o2 x23 x24 false h0_))
theorem f8_aiirrzn_l2_b_ok (k : Nat) (x23 x24 : Int) (h0_ : List T39) (r : R8_aiirrzn_l2) (hF : f8_aiirrzn_l2_b k x23 x24 h0_ = some r) : EX 8 k (nav B8 [1,2,2,1,2,2]) (⟨33,[(22,.own 30000),(23,.p (.int .i64 x23)),(24,.p (.int .i64 x24))],[(30000,.row true 11 39 (rowsOf encT39 h0_))]⟩ : St) = some r.st := by
 unfold f8_aiirrzn_l2_b at hF
 simp (maxSteps:=999999) (disch:=first|exact D (by decide)|exact K (by kernel_rfl)) only [E,EE,↓reduceIte,simprocAttr,xk B8 [1,2,2,1,2,2] .sq rfl,rg B8 [1,1,2,2,1,2,2] 4 false rfl,hr_8_4,xk B8 [2,1,2,2,1,2,2] .sq rfl,xk B8 [1,2,1,2,2,1,2,2] (.cd 25) rfl]
 rcases cond_some hF with ⟨h1,hF⟩ | ⟨h1,hF⟩
 ·have hJ := f8_aiirrzn_l2_j1_ok k x23 x24 true h0_ _ hF
  simp (maxSteps:=999999) (disch:=first|exact D (by decide)|exact K (by kernel_rfl)) only [E,EE,↓reduceIte,simprocAttr,xk B8 [2,1,2,1,2,2,1,2,2] .sk rfl,h1]
  try simp only [NM,EE] at hJ
  exact hJ
 ·cases hF
  simp (maxSteps:=999999) (disch:=first|exact D (by decide)|exact K (by kernel_rfl)) only [E,EE,↓reduceIte,simprocAttr,xk B8 [3,1,2,1,2,2,1,2,2] (.ex 0) rfl,R8_aiirrzn_l2.st,h1]
noncomputable def f8_aiirrzn_l2 (k : Nat) : Nat → Int → Int → (List T39) → Option R8_aiirrzn_l2
 | 0,_,_,_ => none
 | n + 1,x23,x24,h0_ => Option.bind (f8_aiirrzn_l2_b k x23 x24 h0_) fun o =>
  match o with
  | .o0 y => some (.o0 y)
  | .o1 y y_1 y_2 => f8_aiirrzn_l2 k n y y_1 y_2
  | .o2 y y_1 y_2 y_3 => some (.o2 y y_1 y_2 y_3)
theorem f8_aiirrzn_l2_ok (k n : Nat) : ∀ (x23 x24 : Int) (h0_ : List T39) (r : R8_aiirrzn_l2) (hF : f8_aiirrzn_l2 k n x23 x24 h0_ = some r) (σ : St) (hσ : headR (hints.head 8 4) (hints.canon 8 4) σ = some (⟨33,[(22,.own 30000),(23,.p (.int .i64 x23)),(24,.p (.int .i64 x24))],[(30000,.row true 11 39 (rowsOf encT39 h0_))]⟩ : St)),LP 8 k (nav B8 [1,2,2,1,2,2]) n σ = some r.st := by
 induction n with
 | zero => intro x23 x24 h0_ r hF; cases hF
 | succ n ih =>
  intro x23 x24 h0_ r hF σ hσ
  rw [f8_aiirrzn_l2] at hF
  obtain ⟨o,h,hF⟩ := Option.bind_eq_some_iff.1 hF
  have hB := f8_aiirrzn_l2_b_ok k x23 x24 h0_ o h
  unfold LP at ih ⊢
  unfold EX at hB
  rw [loopK_succ,show firstReg (nav B8 [1,2,2,1,2,2]) = 4 from rfl,hσ,headK_some,hB]
  cases o with
  | o0 y => cases hF; rfl
  | o1 y y_1 y_2 =>
   refine ih y y_1 y_2 r hF _ ?_
   simp (maxSteps:=999999) (disch:=first|exact D (by decide)|exact K (by kernel_rfl)) only [E,EE,↓reduceIte,simprocAttr,hh_8_4,hc_8_4]
  | o2 y y_1 y_2 y_3 => cases hF; rfl
noncomputable def f8_aiirrzn_j3 (k : Nat) (x23 x24 : Int) (x25 : Bool) (h0_ : List T39) : Option R8_aiirrzn :=
 some (R8_aiirrzn.o0 false)
theorem f8_aiirrzn_j3_ok (k : Nat) (x23 x24 : Int) (x25 : Bool) (h0_ : List T39) (r : R8_aiirrzn) (hF : f8_aiirrzn_j3 k x23 x24 x25 h0_ = some r) : finK Try.prog Try.f8 0 (EX 8 k (nav B8 [2,2,2]) (⟨33,[(22,.own 30000),(23,.p (.int .i64 x23)),(24,.p (.int .i64 x24)),(25,.p (.bool x25))],[(30000,.row true 11 39 (rowsOf encT39 h0_))]⟩ : St)) = some r.st := by
 unfold f8_aiirrzn_j3 at hF
 cases hF
 simp (maxSteps:=999999) (disch:=first|exact D (by decide)|exact K (by kernel_rfl)) only [E,EE,↓reduceIte,simprocAttr,xk B8 [2,2,2] .sq rfl,rg B8 [1,2,2,2] 9 false rfl,hr_8_9,xk B8 [2,2,2,2] .rt rfl,finK_norm,finK_ret,fin8,R8_aiirrzn.st]
noncomputable def f8_aiirrzn_j1 (k : Nat) (x16 : Bool) (s0 : List T39) (m2 m2_1 : Int) (m2_2 : List T65) (m2_3 : List T39) : Option R8_aiirrzn :=
 ifE ((List.length m2_3) * 104 ≤ roomy) (
  ifE (((List.length m2_3) + (List.length s0)) * 104 ≤ roomy) (
   Option.bind (f8_aiirrzn_l2 k k ((List.length (m2_3 ++ s0)) : Int) 0 (m2_3 ++ s0)) fun o3 =>
    match o3 with
    | .o0 v6 =>
     some (R8_aiirrzn.o0 v6)
    | .o1 _ _ _ =>
     none
    | .o2 v7 v8 v9 v10 =>
     f8_aiirrzn_j3 k v7 v8 v9 v10))
theorem f8_aiirrzn_j1_ok (k : Nat) (x16 : Bool) (s0 : List T39) (m2 m2_1 : Int) (m2_2 : List T65) (m2_3 : List T39) (r : R8_aiirrzn) (hF : f8_aiirrzn_j1 k x16 s0 m2 m2_1 m2_2 m2_3 = some r) : finK Try.prog Try.f8 0 (EX 8 k (nav B8 [2,2]) (⟨33,[(1,.own 700000),(2,.ptr 2 0),(16,.p (.bool x16))],[(700000,.row true 11 39 (rowsOf encT39 s0)),(2,.box 26 [.p (.int .i64 m2),.p (.int .u32 m2_1),.sl 4 (rowsOf encT65 m2_2),.sl 11 (rowsOf encT39 m2_3)])]⟩ : St)) = some r.st := by
 unfold f8_aiirrzn_j1 at hF
 obtain ⟨h1,hF⟩ := ifE_some.1 hF
 obtain ⟨h2,hF⟩ := ifE_some.1 hF
 obtain ⟨o3,h4,hF⟩ := bs hF
 have hc5 := f8_aiirrzn_l2_ok k k ((List.length (m2_3 ++ s0)) : Int) 0 (m2_3 ++ s0) _ h4
 simp (maxSteps:=999999) (disch:=first|exact D (by decide)|exact K (by kernel_rfl)) only [E,EE,↓reduceIte,simprocAttr,xk B8 [2,2] .sq rfl,xk B8 [1,2,2] .sq rfl,rg B8 [1,1,2,2] 3 false rfl,hr_8_3,buildSliceV,fillRows,sm_39,t_24,t_39,fieldAddrV,t_26,appendV,content,xk B8 [2,1,2,2] (.bk 0) rfl,xk B8 [2,2,1,2,2] .lp rfl,hh_8_4,hc_8_4,h1,h2]
 (try simp only [NM,EE] at hc5)
 rw [hc5 _ (by simp (maxSteps:=999999) (disch:=first|exact D (by decide)|exact K (by kernel_rfl)) only [E,EE,↓reduceIte,simprocAttr,hh_8_4,hc_8_4,h1,h2])]
 clear hc5
 cases o3 with
 | o0 v6 =>
  (try dsimp only at hF)
  cases hF
  simp (maxSteps:=999999) (disch:=first|exact D (by decide)|exact K (by kernel_rfl)) only [E,EE,↓reduceIte,simprocAttr,R8_aiirrzn_l2.st,finK_norm,finK_ret,fin8,R8_aiirrzn.st,h1,h2]
 | o1 _ _ _ =>
  (try dsimp only at hF)
  cases hF
 | o2 v7 v8 v9 v10 =>
  (try dsimp only at hF)
  have hJ := f8_aiirrzn_j3_ok k v7 v8 v9 v10 _ hF
  simp (maxSteps:=999999) (disch:=first|exact D (by decide)|exact K (by kernel_rfl)) only [E,EE,↓reduceIte,simprocAttr,R8_aiirrzn_l2.st,h1,h2]
  try simp only [NM,EE] at hJ
  exact hJ
noncomputable def f8_aiirrzn_e (k : Nat) (a0 a0_1 : Int) (a0_2 : List T65) (a0_3 : List T39) : Option R8_aiirrzn :=
 cond ((decide (((List.length a0_2) : Int) > 300)))
  (some (R8_aiirrzn.o0 true))
  (
   cond ((decide (((List.length a0_3) : Int) > 60)))
    (some (R8_aiirrzn.o0 true))
    (f8_aiirrzn_j1 k false [] a0 a0_1 a0_2 a0_3))
theorem f8_aiirrzn_e_ok (k : Nat) (a0 a0_1 : Int) (a0_2 : List T65) (a0_3 : List T39) (r : R8_aiirrzn) (hF : f8_aiirrzn_e k a0 a0_1 a0_2 a0_3 = some r) : finK Try.prog Try.f8 0 (EX 8 k (nav B8 []) (⟨33,[(0,.agg [.p (.int .i64 a0),.p (.int .u32 a0_1),.sl 4 (rowsOf encT65 a0_2),.sl 11 (rowsOf encT39 a0_3)]),(1,V.nil)],[]⟩ : St)) = some r.st := by
 unfold f8_aiirrzn_e at hF
 simp (maxSteps:=999999) (disch:=first|exact D (by decide)|exact K (by kernel_rfl)) only [E,EE,↓reduceIte,simprocAttr,xk B8 [] .sq rfl,rg B8 [1] 0 false rfl,hr_8_0,xk B8 [2] .sq rfl,xk B8 [1,2] .sq rfl,rg B8 [1,1,2] 1 false rfl,hr_8_1,fieldAddrV,t_26,t_23]
 rcases cond_some hF with ⟨h1,hF⟩ | ⟨h1,hF⟩
 ·cases hF
  simp (maxSteps:=999999) (disch:=first|exact D (by decide)|exact K (by kernel_rfl)) only [E,EE,↓reduceIte,simprocAttr,xk B8 [2,1,2] (.cd 16) rfl,xk B8 [2,2,1,2] .sq rfl,rg B8 [1,2,2,1,2] 2 false rfl,hr_8_2,xk B8 [2,2,2,1,2] .rt rfl,finK_norm,finK_ret,fin8,R8_aiirrzn.st,h1]
 ·simp (maxSteps:=999999) (disch:=first|exact D (by decide)|exact K (by kernel_rfl)) only [E,EE,↓reduceIte,simprocAttr,fieldAddrV,t_26,t_24,xk B8 [2,1,2] (.cd 16) rfl,h1]
  rcases cond_some hF with ⟨h2,hF⟩ | ⟨h2,hF⟩
  ·cases hF
   simp (maxSteps:=999999) (disch:=first|exact D (by decide)|exact K (by kernel_rfl)) only [E,EE,↓reduceIte,simprocAttr,xk B8 [2,2,1,2] .sq rfl,rg B8 [1,2,2,1,2] 2 false rfl,hr_8_2,xk B8 [2,2,2,1,2] .rt rfl,finK_norm,finK_ret,fin8,R8_aiirrzn.st,h1,h2]
  ·have hJ := f8_aiirrzn_j1_ok k false [] a0 a0_1 a0_2 a0_3 _ hF
   simp (maxSteps:=999999) (disch:=first|exact D (by decide)|exact K (by kernel_rfl)) only [E,EE,↓reduceIte,simprocAttr,xk B8 [3,2,1,2] .sk rfl,h1,h2]
   try simp only [NM,EE] at hJ
   exact hJ
noncomputable def f8_aiirrzn (k : Nat) (a0 a0_1 : Int) (a0_2 : List T65) (a0_3 : List T39) : Option R8_aiirrzn := match k with | 0 => none | k + 1 => f8_aiirrzn_e k a0 a0_1 a0_2 a0_3
theorem f8_aiirrzn_ok (k : Nat) (a0 a0_1 : Int) (a0_2 : List T65) (a0_3 : List T39) (r : R8_aiirrzn) (hF : f8_aiirrzn k a0 a0_1 a0_2 a0_3 = some r) : CV k 8 [.agg [.p (.int .i64 a0),.p (.int .u32 a0_1),.sl 4 (rowsOf encT65 a0_2),.sl 11 (rowsOf encT39 a0_3)],V.nil] [] = some r.st := by
 cases k with
 | zero => cases hF
 | succ k =>
  unfold CV
  rw [ev_call (F := Try.f8) (c := (nav B8 [])) rfl Try.func8 rfl rfl rfl rfl]
  exact f8_aiirrzn_e_ok k a0 a0_1 a0_2 a0_3 r hF
-- f10_aiirrz: f10 heliograph/heliographlaw19.copied
inductive R10_aiirrz where
 | o0 (y y_1 : Int) (y_2 : List T65) (y_3 : List T39)
noncomputable def R10_aiirrz.st : R10_aiirrz → V × List O × List O
 | .o0 y y_1 y_2 y_3 => (.agg [.p (.int .i64 y),.p (.int .u32 y_1),.own 2000000,.own 2000001],[],[.row true 4 65 (rowsOf encT65 y_2),.row true 11 39 (rowsOf encT39 y_3)])
inductive R10_aiirrz_l1 where
 | o0 (y : List T39) (y_1 y_2 y_3 y_4 : Int) (y_5 : List T39) (y_6 : List T65) (y_7 y_8 : Int) (y_9 : List T65) (y_10 y_11 : List T39)
 | o1 (y : List T39) (y_1 y_2 : Int) (y_3 : Bool) (y_4 y_5 : Int) (y_6 : List T39) (y_7 : List T65) (y_8 y_9 : Int) (y_10 : List T65) (y_11 y_12 : List T39)
noncomputable def R10_aiirrz_l1.st : R10_aiirrz_l1 → Out × St
 | .o0 y y_1 y_2 y_3 y_4 y_5 y_6 y_7 y_8 y_9 y_10 y_11 => (.norm,(⟨31,[(1,.ptr 30000 0),(2,.ptr 30002 0),(3,.own 26),(12,.sl 11 (rowsOf encT39 y)),(13,.p (.int .i64 y_1)),(14,.p (.int .i64 y_2))],[(30000,.box 26 [.p (.int .i64 y_3),.p (.int .u32 y_4),.own 30001,.sl 11 (rowsOf encT39 y_5)]),(30001,.row true 4 65 (rowsOf encT65 y_6)),(30002,.box 26 [.p (.int .i64 y_7),.p (.int .u32 y_8),.own 30003,.own 30004]),(30003,.row true 4 65 (rowsOf encT65 y_9)),(30004,.row true 11 39 (rowsOf encT39 y_10)),(26,.row true 11 39 (rowsOf encT39 y_11))]⟩ : St))
 | .o1 y y_1 y_2 y_3 y_4 y_5 y_6 y_7 y_8 y_9 y_10 y_11 y_12 => (.exit 0,(⟨31,[(1,.ptr 30000 0),(2,.ptr 30002 0),(3,.own 30005),(12,.sl 11 (rowsOf encT39 y)),(13,.p (.int .i64 y_1)),(14,.p (.int .i64 y_2)),(15,.p (.bool y_3))],[(30000,.box 26 [.p (.int .i64 y_4),.p (.int .u32 y_5),.own 30001,.sl 11 (rowsOf encT39 y_6)]),(30001,.row true 4 65 (rowsOf encT65 y_7)),(30002,.box 26 [.p (.int .i64 y_8),.p (.int .u32 y_9),.own 30003,.own 30004]),(30003,.row true 4 65 (rowsOf encT65 y_10)),(30004,.row true 11 39 (rowsOf encT39 y_11)),(30005,.row true 11 39 (rowsOf encT39 y_12))]⟩ : St))
noncomputable def f10_aiirrz_l1_j2 (k : Nat) (x12 : List T39) (x13 x14 h0_ h0__1 : Int) (h0__2 : List T39) (h1_ : List T65) (h2_ h2__1 : Int) (h3_ : List T65) (h4_ m26 : List T39) : Option R10_aiirrz_l1 :=
 some (R10_aiirrz_l1.o0 x12 x13 (IntKind.i64.wrap (x14 + (1 : Int))) h0_ h0__1 h0__2 h1_ h2_ h2__1 h3_ h4_ m26)
theorem f10_aiirrz_l1_j2_ok (k : Nat) (x12 : List T39) (x13 x14 h0_ h0__1 : Int) (h0__2 : List T39) (h1_ : List T65) (h2_ h2__1 : Int) (h3_ : List T65) (h4_ m26 : List T39) (r : R10_aiirrz_l1) (hF : f10_aiirrz_l1_j2 k x12 x13 x14 h0_ h0__1 h0__2 h1_ h2_ h2__1 h3_ h4_ m26 = some r) : EX 10 k (nav B10 [2,2,2,1,2,2,1,2,2,2]) (⟨31,[(1,.ptr 30000 0),(2,.ptr 30002 0),(3,.own 26),(12,.sl 11 (rowsOf encT39 x12)),(13,.p (.int .i64 x13)),(14,.p (.int .i64 x14))],[(30000,.box 26 [.p (.int .i64 h0_),.p (.int .u32 h0__1),.own 30001,.sl 11 (rowsOf encT39 h0__2)]),(30001,.row true 4 65 (rowsOf encT65 h1_)),(30002,.box 26 [.p (.int .i64 h2_),.p (.int .u32 h2__1),.own 30003,.own 30004]),(30003,.row true 4 65 (rowsOf encT65 h3_)),(30004,.row true 11 39 (rowsOf encT39 h4_)),(26,.row true 11 39 (rowsOf encT39 m26))]⟩ : St) = some r.st := by
 unfold f10_aiirrz_l1_j2 at hF
 cases hF
 simp (maxSteps:=999999) (disch:=first|exact D (by decide)|exact K (by kernel_rfl)) only [E,EE,↓reduceIte,simprocAttr,rg B10 [2,2,2,1,2,2,1,2,2,2] 8 false rfl,hr_10_8,R10_aiirrz_l1.st]
noncomputable def f10_aiirrz_l1_j1 (k : Nat) (x12 : List T39) (x13 x14 : Int) (x15 : Bool) (h0_ h0__1 : Int) (h0__2 : List T39) (h1_ : List T65) (h2_ h2__1 : Int) (h3_ : List T65) (h4_ h5_ : List T39) : Option R10_aiirrz_l1 :=
 ifE ((0 : Int) ≤ x14) (
  Option.bind (x12[(Int.toNat x14)]?) fun v2 =>
   ifE ((List.length v2.Payload) ≤ roomy) (
    ifE (((List.length h5_) + 1) * 104 ≤ roomy) (
     f10_aiirrz_l1_j2 k x12 x13 x14 h0_ h0__1 h0__2 h1_ h2_ h2__1 h3_ h4_ (h5_ ++ ([v2] : List T39)))))
theorem f10_aiirrz_l1_j1_ok (k : Nat) (x12 : List T39) (x13 x14 : Int) (x15 : Bool) (h0_ h0__1 : Int) (h0__2 : List T39) (h1_ : List T65) (h2_ h2__1 : Int) (h3_ : List T65) (h4_ h5_ : List T39) (r : R10_aiirrz_l1) (hF : f10_aiirrz_l1_j1 k x12 x13 x14 x15 h0_ h0__1 h0__2 h1_ h2_ h2__1 h3_ h4_ h5_ = some r) : EX 10 k (nav B10 [2,2,1,2,2,1,2,2,2]) (⟨31,[(1,.ptr 30000 0),(2,.ptr 30002 0),(3,.own 30005),(12,.sl 11 (rowsOf encT39 x12)),(13,.p (.int .i64 x13)),(14,.p (.int .i64 x14)),(15,.p (.bool x15))],[(30000,.box 26 [.p (.int .i64 h0_),.p (.int .u32 h0__1),.own 30001,.sl 11 (rowsOf encT39 h0__2)]),(30001,.row true 4 65 (rowsOf encT65 h1_)),(30002,.box 26 [.p (.int .i64 h2_),.p (.int .u32 h2__1),.own 30003,.own 30004]),(30003,.row true 4 65 (rowsOf encT65 h3_)),(30004,.row true 11 39 (rowsOf encT39 h4_)),(30005,.row true 11 39 (rowsOf encT39 h5_))]⟩ : St) = some r.st := by
 unfold f10_aiirrz_l1_j1 at hF
 obtain ⟨h1,hF⟩ := ifE_some.1 hF
 obtain ⟨v2,h3,hF⟩ := bs hF
 obtain ⟨h4,hF⟩ := ifE_some.1 hF
 have q5 : [[.p (.int .i64 v2.Source),.p (.int .i64 v2.Dest),.p (.int .u32 v2.Seq),.p (.int .i64 v2.Created),.p (.int .i64 v2.Lifetime),.p (.int .i64 v2.HopLimit),.p (.int .i64 v2.Hops),.p (.int .i64 v2.Priority),.p (.int .i64 v2.Offset),.p (.int .i64 v2.Total),.sl 1 (rowsOf (encI .u8) v2.Payload)]] = rowsOf encT39 ([v2] : List T39) := rfl
 have q6 : List.map (tell [0,0,0,0,0,0,0,0,0,0,1]) (rowsOf encT39 ([v2] : List T39)) = rowsOf encT39 ([v2] : List T39) := rfl
 obtain ⟨h7,hF⟩ := ifE_some.1 hF
 have hJ := f10_aiirrz_l1_j2_ok k x12 x13 x14 h0_ h0__1 h0__2 h1_ h2_ h2__1 h3_ h4_ (h5_ ++ ([v2] : List T39)) _ hF
 simp (maxSteps:=999999) (disch:=first|exact D (by decide)|exact K (by kernel_rfl)) only [E,EE,↓reduceIte,simprocAttr,xk B10 [2,2,1,2,2,1,2,2,2] .sq rfl,xk B10 [1,2,2,1,2,2,1,2,2,2] (.bk 1) rfl,xk B10 [2,1,2,2,1,2,2,1,2,2,2] .sq rfl,rg B10 [1,2,1,2,2,1,2,2,1,2,2,2] 5 false rfl,hr_10_5,indexAddrV,t_24,t_39,encT39_eq,xk B10 [2,2,1,2,2,1,2,2,1,2,2,2] .sq rfl,rg B10 [1,2,2,1,2,2,1,2,2,1,2,2,2] 6 false rfl,hr_10_6,buildSliceV,fillRows,sm_5,t_29,t_5,fieldAddrV,appendV,content,rg B10 [2,2,2,1,2,2,1,2,2,1,2,2,2] 7 false rfl,hr_10_7,sm_39,h1,h3,h4,q5,q6,h7]
 try simp only [NM,EE] at hJ
 exact hJ
noncomputable def f10_aiirrz_l1_b (k : Nat) (x12 : List T39) (x13 x14 h0_ h0__1 : Int) (h0__2 : List T39) (h1_ : List T65) (h2_ h2__1 : Int) (h3_ : List T65) (h4_ h5_ : List T39) : Option R10_aiirrz_l1 :=
 cond ((decide (x14 < x13)))
  (f10_aiirrz_l1_j1 k x12 x13 x14 true h0_ h0__1 h0__2 h1_ h2_ h2__1 h3_ h4_ h5_)
  (some (R10_aiirrz_l1.o1 x12 x13 x14 false h0_ h0__1 h0__2 h1_ h2_ h2__1 h3_ h4_ h5_))
theorem f10_aiirrz_l1_b_ok (k : Nat) (x12 : List T39) (x13 x14 h0_ h0__1 : Int) (h0__2 : List T39) (h1_ : List T65) (h2_ h2__1 : Int) (h3_ : List T65) (h4_ h5_ : List T39) (r : R10_aiirrz_l1) (hF : f10_aiirrz_l1_b k x12 x13 x14 h0_ h0__1 h0__2 h1_ h2_ h2__1 h3_ h4_ h5_ = some r) : EX 10 k (nav B10 [1,2,2,1,2,2,2]) (⟨31,[(1,.ptr 30000 0),(2,.ptr 30002 0),(3,.own 30005),(12,.sl 11 (rowsOf encT39 x12)),(13,.p (.int .i64 x13)),(14,.p (.int .i64 x14))],[(30000,.box 26 [.p (.int .i64 h0_),.p (.int .u32 h0__1),.own 30001,.sl 11 (rowsOf encT39 h0__2)]),(30001,.row true 4 65 (rowsOf encT65 h1_)),(30002,.box 26 [.p (.int .i64 h2_),.p (.int .u32 h2__1),.own 30003,.own 30004]),(30003,.row true 4 65 (rowsOf encT65 h3_)),(30004,.row true 11 39 (rowsOf encT39 h4_)),(30005,.row true 11 39 (rowsOf encT39 h5_))]⟩ : St) = some r.st := by
 unfold f10_aiirrz_l1_b at hF
 simp (maxSteps:=999999) (disch:=first|exact D (by decide)|exact K (by kernel_rfl)) only [E,EE,↓reduceIte,simprocAttr,xk B10 [1,2,2,1,2,2,2] .sq rfl,rg B10 [1,1,2,2,1,2,2,2] 4 false rfl,hr_10_4,xk B10 [2,1,2,2,1,2,2,2] .sq rfl,xk B10 [1,2,1,2,2,1,2,2,2] (.cd 15) rfl]
 rcases cond_some hF with ⟨h1,hF⟩ | ⟨h1,hF⟩
 ·have hJ := f10_aiirrz_l1_j1_ok k x12 x13 x14 true h0_ h0__1 h0__2 h1_ h2_ h2__1 h3_ h4_ h5_ _ hF
  simp (maxSteps:=999999) (disch:=first|exact D (by decide)|exact K (by kernel_rfl)) only [E,EE,↓reduceIte,simprocAttr,xk B10 [2,1,2,1,2,2,1,2,2,2] .sk rfl,h1]
  try simp only [NM,EE] at hJ
  exact hJ
 ·cases hF
  simp (maxSteps:=999999) (disch:=first|exact D (by decide)|exact K (by kernel_rfl)) only [E,EE,↓reduceIte,simprocAttr,xk B10 [3,1,2,1,2,2,1,2,2,2] (.ex 0) rfl,R10_aiirrz_l1.st,h1]
noncomputable def f10_aiirrz_l1 (k : Nat) : Nat → (List T39) → Int → Int → Int → Int → (List T39) → (List T65) → Int → Int → (List T65) → (List T39) → (List T39) → Option R10_aiirrz_l1
 | 0,_,_,_,_,_,_,_,_,_,_,_,_ => none
 | n + 1,x12,x13,x14,h0_,h0__1,h0__2,h1_,h2_,h2__1,h3_,h4_,h5_ => Option.bind (f10_aiirrz_l1_b k x12 x13 x14 h0_ h0__1 h0__2 h1_ h2_ h2__1 h3_ h4_ h5_) fun o =>
  match o with
  | .o0 y y_1 y_2 y_3 y_4 y_5 y_6 y_7 y_8 y_9 y_10 y_11 => f10_aiirrz_l1 k n y y_1 y_2 y_3 y_4 y_5 y_6 y_7 y_8 y_9 y_10 y_11
  | .o1 y y_1 y_2 y_3 y_4 y_5 y_6 y_7 y_8 y_9 y_10 y_11 y_12 => some (.o1 y y_1 y_2 y_3 y_4 y_5 y_6 y_7 y_8 y_9 y_10 y_11 y_12)
theorem f10_aiirrz_l1_ok (k n : Nat) : ∀ (x12 : List T39) (x13 x14 h0_ h0__1 : Int) (h0__2 : List T39) (h1_ : List T65) (h2_ h2__1 : Int) (h3_ : List T65) (h4_ h5_ : List T39) (r : R10_aiirrz_l1) (hF : f10_aiirrz_l1 k n x12 x13 x14 h0_ h0__1 h0__2 h1_ h2_ h2__1 h3_ h4_ h5_ = some r) (σ : St) (hσ : headR (hints.head 10 4) (hints.canon 10 4) σ = some (⟨31,[(1,.ptr 30000 0),(2,.ptr 30002 0),(3,.own 30005),(12,.sl 11 (rowsOf encT39 x12)),(13,.p (.int .i64 x13)),(14,.p (.int .i64 x14))],[(30000,.box 26 [.p (.int .i64 h0_),.p (.int .u32 h0__1),.own 30001,.sl 11 (rowsOf encT39 h0__2)]),(30001,.row true 4 65 (rowsOf encT65 h1_)),(30002,.box 26 [.p (.int .i64 h2_),.p (.int .u32 h2__1),.own 30003,.own 30004]),(30003,.row true 4 65 (rowsOf encT65 h3_)),(30004,.row true 11 39 (rowsOf encT39 h4_)),(30005,.row true 11 39 (rowsOf encT39 h5_))]⟩ : St)),LP 10 k (nav B10 [1,2,2,1,2,2,2]) n σ = some r.st := by
 induction n with
 | zero => intro x12 x13 x14 h0_ h0__1 h0__2 h1_ h2_ h2__1 h3_ h4_ h5_ r hF; cases hF
 | succ n ih =>
  intro x12 x13 x14 h0_ h0__1 h0__2 h1_ h2_ h2__1 h3_ h4_ h5_ r hF σ hσ
  rw [f10_aiirrz_l1] at hF
  obtain ⟨o,h,hF⟩ := Option.bind_eq_some_iff.1 hF
  have hB := f10_aiirrz_l1_b_ok k x12 x13 x14 h0_ h0__1 h0__2 h1_ h2_ h2__1 h3_ h4_ h5_ o h
  unfold LP at ih ⊢
  unfold EX at hB
  rw [loopK_succ,show firstReg (nav B10 [1,2,2,1,2,2,2]) = 4 from rfl,hσ,headK_some,hB]
  cases o with
  | o0 y y_1 y_2 y_3 y_4 y_5 y_6 y_7 y_8 y_9 y_10 y_11 =>
   refine ih y y_1 y_2 y_3 y_4 y_5 y_6 y_7 y_8 y_9 y_10 y_11 r hF _ ?_
   simp (maxSteps:=999999) (disch:=first|exact D (by decide)|exact K (by kernel_rfl)) only [E,EE,↓reduceIte,simprocAttr,hh_10_4,hc_10_4]
  | o1 y y_1 y_2 y_3 y_4 y_5 y_6 y_7 y_8 y_9 y_10 y_11 y_12 => cases hF; rfl
noncomputable def f10_aiirrz_j2 (k : Nat) (x12 : List T39) (x13 x14 : Int) (x15 : Bool) (h0_ h0__1 : Int) (h0__2 : List T39) (h1_ : List T65) (h2_ h2__1 : Int) (h3_ : List T65) (h4_ h5_ : List T39) : Option R10_aiirrz :=
 some (R10_aiirrz.o0 h0_ h0__1 h1_ h5_)
theorem f10_aiirrz_j2_ok (k : Nat) (x12 : List T39) (x13 x14 : Int) (x15 : Bool) (h0_ h0__1 : Int) (h0__2 : List T39) (h1_ : List T65) (h2_ h2__1 : Int) (h3_ : List T65) (h4_ h5_ : List T39) (r : R10_aiirrz) (hF : f10_aiirrz_j2 k x12 x13 x14 x15 h0_ h0__1 h0__2 h1_ h2_ h2__1 h3_ h4_ h5_ = some r) : finK Try.prog Try.f10 0 (EX 10 k (nav B10 [2,2,2,2]) (⟨31,[(1,.ptr 30000 0),(2,.ptr 30002 0),(3,.own 30005),(12,.sl 11 (rowsOf encT39 x12)),(13,.p (.int .i64 x13)),(14,.p (.int .i64 x14)),(15,.p (.bool x15))],[(30000,.box 26 [.p (.int .i64 h0_),.p (.int .u32 h0__1),.own 30001,.sl 11 (rowsOf encT39 h0__2)]),(30001,.row true 4 65 (rowsOf encT65 h1_)),(30002,.box 26 [.p (.int .i64 h2_),.p (.int .u32 h2__1),.own 30003,.own 30004]),(30003,.row true 4 65 (rowsOf encT65 h3_)),(30004,.row true 11 39 (rowsOf encT39 h4_)),(30005,.row true 11 39 (rowsOf encT39 h5_))]⟩ : St)) = some r.st := by
 unfold f10_aiirrz_j2 at hF
 cases hF
 simp (maxSteps:=999999) (disch:=first|exact D (by decide)|exact K (by kernel_rfl)) only [E,EE,↓reduceIte,simprocAttr,xk B10 [2,2,2,2] .sq rfl,rg B10 [1,2,2,2,2] 9 false rfl,hr_10_9,fieldAddrV,t_26,t_24,xk B10 [2,2,2,2,2] .sq rfl,rg B10 [1,2,2,2,2,2] 10 false rfl,hr_10_10,xk B10 [2,2,2,2,2,2] .rt rfl,finK_norm,finK_ret,fin10,R10_aiirrz.st]
noncomputable def f10_aiirrz_e (k : Nat) (a0 a0_1 : Int) (a0_2 : List T65) (a0_3 : List T39) : Option R10_aiirrz :=
 ifE ((List.length a0_2) * 32 ≤ roomy) (
  Option.bind (f10_aiirrz_l1 k k a0_3 ((List.length a0_3) : Int) 0 a0 a0_1 a0_3 a0_2 0 0 [] [] []) fun o2 =>
   match o2 with
   | .o0 _ _ _ _ _ _ _ _ _ _ _ _ =>
    none
   | .o1 v5 v6 v7 v8 v9 v10 v11 v12 v13 v14 v15 v16 v17 =>
    f10_aiirrz_j2 k v5 v6 v7 v8 v9 v10 v11 v12 v13 v14 v15 v16 v17)
theorem f10_aiirrz_e_ok (k : Nat) (a0 a0_1 : Int) (a0_2 : List T65) (a0_3 : List T39) (r : R10_aiirrz) (hF : f10_aiirrz_e k a0 a0_1 a0_2 a0_3 = some r) : finK Try.prog Try.f10 0 (EX 10 k (nav B10 []) (⟨31,[(0,.agg [.p (.int .i64 a0),.p (.int .u32 a0_1),.sl 4 (rowsOf encT65 a0_2),.sl 11 (rowsOf encT39 a0_3)])],[]⟩ : St)) = some r.st := by
 unfold f10_aiirrz_e at hF
 obtain ⟨h1,hF⟩ := ifE_some.1 hF
 obtain ⟨o2,h3,hF⟩ := bs hF
 have hc4 := f10_aiirrz_l1_ok k k a0_3 ((List.length a0_3) : Int) 0 a0 a0_1 a0_3 a0_2 0 0 [] [] [] _ h3
 simp (maxSteps:=999999) (disch:=first|exact D (by decide)|exact K (by kernel_rfl)) only [E,EE,↓reduceIte,simprocAttr,xk B10 [] .sq rfl,rg B10 [1] 0 false rfl,hr_10_0,t_26,xk B10 [2] .sq rfl,rg B10 [1,2] 1 false rfl,hr_10_1,buildSliceV,fillRows,sm_65,t_23,t_65,fieldAddrV,appendV,content,xk B10 [2,2] .sq rfl,rg B10 [1,2,2] 2 false rfl,hr_10_2,xk B10 [2,2,2] .sq rfl,xk B10 [1,2,2,2] .sq rfl,rg B10 [1,1,2,2,2] 3 false rfl,hr_10_3,t_24,xk B10 [2,1,2,2,2] (.bk 0) rfl,xk B10 [2,2,1,2,2,2] .lp rfl,hh_10_4,hc_10_4,h1]
 (try simp only [NM,EE] at hc4)
 rw [hc4 _ (by simp (maxSteps:=999999) (disch:=first|exact D (by decide)|exact K (by kernel_rfl)) only [E,EE,↓reduceIte,simprocAttr,hh_10_4,hc_10_4,h1])]
 clear hc4
 cases o2 with
 | o0 _ _ _ _ _ _ _ _ _ _ _ _ =>
  (try dsimp only at hF)
  cases hF
 | o1 v5 v6 v7 v8 v9 v10 v11 v12 v13 v14 v15 v16 v17 =>
  (try dsimp only at hF)
  have hJ := f10_aiirrz_j2_ok k v5 v6 v7 v8 v9 v10 v11 v12 v13 v14 v15 v16 v17 _ hF
  simp (maxSteps:=999999) (disch:=first|exact D (by decide)|exact K (by kernel_rfl)) only [E,EE,↓reduceIte,simprocAttr,R10_aiirrz_l1.st,h1]
  try simp only [NM,EE] at hJ
  exact hJ
noncomputable def f10_aiirrz (k : Nat) (a0 a0_1 : Int) (a0_2 : List T65) (a0_3 : List T39) : Option R10_aiirrz := match k with | 0 => none | k + 1 => f10_aiirrz_e k a0 a0_1 a0_2 a0_3
theorem f10_aiirrz_ok (k : Nat) (a0 a0_1 : Int) (a0_2 : List T65) (a0_3 : List T39) (r : R10_aiirrz) (hF : f10_aiirrz k a0 a0_1 a0_2 a0_3 = some r) : CV k 10 [.agg [.p (.int .i64 a0),.p (.int .u32 a0_1),.sl 4 (rowsOf encT65 a0_2),.sl 11 (rowsOf encT39 a0_3)]] [] = some r.st := by
 cases k with
 | zero => cases hF
 | succ k =>
  unfold CV
  rw [ev_call (F := Try.f10) (c := (nav B10 [])) rfl Try.func10 rfl rfl rfl rfl]
  exact f10_aiirrz_e_ok k a0 a0_1 a0_2 a0_3 r hF
-- f23_iii: f23 heliograph/agent.within
inductive R23_iii where
 | o0 (y : Bool)
noncomputable def R23_iii.st : R23_iii → V × List O × List O
 | .o0 y => (.p (.bool y),[],[])
noncomputable def f23_iii_e (k : Nat) (a0 a1 a2 : Int) : Option R23_iii :=
 cond ((decide (a0 ≥ a1)))
  (some (R23_iii.o0 (decide (a0 ≤ a2))))
  (some (R23_iii.o0 false))
theorem f23_iii_e_ok (k : Nat) (a0 a1 a2 : Int) (r : R23_iii) (hF : f23_iii_e k a0 a1 a2 = some r) : finK Try.prog Try.f23 0 (EX 23 k (nav B23 []) (⟨15,[(0,.p (.int .i64 a0)),(1,.p (.int .i64 a1)),(2,.p (.int .i64 a2))],[]⟩ : St)) = some r.st := by
 unfold f23_iii_e at hF
 simp (maxSteps:=999999) (disch:=first|exact D (by decide)|exact K (by kernel_rfl)) only [E,EE,↓reduceIte,simprocAttr,xk B23 [] .sq rfl,rg B23 [1] 0 false rfl,hr_23_0,xk B23 [2] .sq rfl,rg B23 [1,2] 1 false rfl,hr_23_1]
 rcases cond_some hF with ⟨h1,hF⟩ | ⟨h1,hF⟩
 ·cases hF
  simp (maxSteps:=999999) (disch:=first|exact D (by decide)|exact K (by kernel_rfl)) only [E,EE,↓reduceIte,simprocAttr,xk B23 [2,2] .rt rfl,finK_norm,finK_ret,fin23,R23_iii.st,h1]
 ·cases hF
  simp (maxSteps:=999999) (disch:=first|exact D (by decide)|exact K (by kernel_rfl)) only [E,EE,↓reduceIte,simprocAttr,xk B23 [2,2] .rt rfl,finK_norm,finK_ret,fin23,R23_iii.st,h1]
noncomputable def f23_iii (k : Nat) (a0 a1 a2 : Int) : Option R23_iii := match k with | 0 => none | k + 1 => f23_iii_e k a0 a1 a2
theorem f23_iii_ok (k : Nat) (a0 a1 a2 : Int) (r : R23_iii) (hF : f23_iii k a0 a1 a2 = some r) : CV k 23 [.p (.int .i64 a0),.p (.int .i64 a1),.p (.int .i64 a2)] [] = some r.st := by
 cases k with
 | zero => cases hF
 | succ k =>
  unfold CV
  rw [ev_call (F := Try.f23) (c := (nav B23 [])) rfl Try.func23 rfl rfl rfl rfl]
  exact f23_iii_e_ok k a0 a1 a2 r hF
-- f33_rai4z: f33 slices.Index[[]heliograph/api.Seen,heliograph/api.Seen]
inductive R33_rai4z where
 | o0 (y : Int)
noncomputable def R33_rai4z.st : R33_rai4z → V × List O × List O
 | .o0 y => (.p (.int .i64 y),[],[])
inductive R33_rai4z_l1 where
 | o0 (y : Int)
 | o1 (y : List T65) (y_1 y_2 y_3 y_4 y_5 y_6 : Int)
 | o2 (y : List T65) (y_1 y_2 : Int) (y_3 : Bool) (y_4 y_5 y_6 y_7 : Int)
noncomputable def R33_rai4z_l1.st : R33_rai4z_l1 → Out × St
 | .o0 y => (.ret,(⟨19,[(4,.p (.int .i64 y))],[]⟩ : St))
 | .o1 y y_1 y_2 y_3 y_4 y_5 y_6 => (.norm,(⟨19,[(0,.sl 4 (rowsOf encT65 y)),(3,.ptr 30000 0),(7,.p (.int .i64 y_1)),(8,.p (.int .i64 y_2))],[(30000,.box 65 [.p (.int .i64 y_3),.p (.int .u32 y_4),.p (.int .i64 y_5),.p (.int .i64 y_6)])]⟩ : St))
 | .o2 y y_1 y_2 y_3 y_4 y_5 y_6 y_7 => (.exit 0,(⟨19,[(0,.sl 4 (rowsOf encT65 y)),(3,.ptr 30000 0),(7,.p (.int .i64 y_1)),(8,.p (.int .i64 y_2)),(9,.p (.bool y_3))],[(30000,.box 65 [.p (.int .i64 y_4),.p (.int .u32 y_5),.p (.int .i64 y_6),.p (.int .i64 y_7)])]⟩ : St))
noncomputable def f33_rai4z_l1_j2 (k : Nat) (x0 : List T65) (x5 x7 x8 : Int) (x16 : Bool) (h0_ h0__1 h0__2 h0__3 : Int) : Option R33_rai4z_l1 :=
 some (R33_rai4z_l1.o1 x0 x7 (IntKind.i64.wrap (x8 + (1 : Int))) h0_ h0__1 h0__2 h0__3)
theorem f33_rai4z_l1_j2_ok (k : Nat) (x0 : List T65) (x5 x7 x8 : Int) (x16 : Bool) (h0_ h0__1 h0__2 h0__3 : Int) (r : R33_rai4z_l1) (hF : f33_rai4z_l1_j2 k x0 x5 x7 x8 x16 h0_ h0__1 h0__2 h0__3 = some r) : EX 33 k (nav B33 [2,2,2,1,2,2,1,2]) (⟨19,[(0,.sl 4 (rowsOf encT65 x0)),(3,.ptr 30000 0),(5,.p (.int .i64 x5)),(7,.p (.int .i64 x7)),(8,.p (.int .i64 x8)),(16,.p (.bool x16))],[(30000,.box 65 [.p (.int .i64 h0_),.p (.int .u32 h0__1),.p (.int .i64 h0__2),.p (.int .i64 h0__3)])]⟩ : St) = some r.st := by
 unfold f33_rai4z_l1_j2 at hF
 cases hF
 simp (maxSteps:=999999) (disch:=first|exact D (by decide)|exact K (by kernel_rfl)) only [E,EE,↓reduceIte,simprocAttr,rg B33 [2,2,2,1,2,2,1,2] 6 false rfl,hr_33_6,R33_rai4z_l1.st]
noncomputable def f33_rai4z_l1_j1 (k : Nat) (x0 : List T65) (x7 x8 : Int) (x9 : Bool) (h0_ h0__1 h0__2 h0__3 : Int) : Option R33_rai4z_l1 :=
 ifE ((0 : Int) ≤ x8) (
  Option.bind (x0[(Int.toNat x8)]?) fun v2 =>
   cond ((((h0_ == v2.Key_Source) && ((h0__1 == v2.Key_Seq) && (h0__2 == v2.Key_Offset))) && (h0__3 == v2.N)))
    (some (R33_rai4z_l1.o0 x8))
    (f33_rai4z_l1_j2 k x0 x8 x7 x8 false h0_ h0__1 h0__2 h0__3))
theorem f33_rai4z_l1_j1_ok (k : Nat) (x0 : List T65) (x7 x8 : Int) (x9 : Bool) (h0_ h0__1 h0__2 h0__3 : Int) (r : R33_rai4z_l1) (hF : f33_rai4z_l1_j1 k x0 x7 x8 x9 h0_ h0__1 h0__2 h0__3 = some r) : EX 33 k (nav B33 [2,2,1,2,2,1,2]) (⟨19,[(0,.sl 4 (rowsOf encT65 x0)),(3,.ptr 30000 0),(7,.p (.int .i64 x7)),(8,.p (.int .i64 x8)),(9,.p (.bool x9))],[(30000,.box 65 [.p (.int .i64 h0_),.p (.int .u32 h0__1),.p (.int .i64 h0__2),.p (.int .i64 h0__3)])]⟩ : St) = some r.st := by
 unfold f33_rai4z_l1_j1 at hF
 obtain ⟨h1,hF⟩ := ifE_some.1 hF
 obtain ⟨v2,h3,hF⟩ := bs hF
 simp (maxSteps:=999999) (disch:=first|exact D (by decide)|exact K (by kernel_rfl)) only [E,EE,↓reduceIte,simprocAttr,xk B33 [2,2,1,2,2,1,2] .sq rfl,xk B33 [1,2,2,1,2,2,1,2] (.bk 1) rfl,xk B33 [2,1,2,2,1,2,2,1,2] .sq rfl,rg B33 [1,2,1,2,2,1,2,2,1,2] 3 false rfl,hr_33_3,xk B33 [2,2,1,2,2,1,2,2,1,2] .sq rfl,rg B33 [1,2,2,1,2,2,1,2,2,1,2] 4 true rfl,hr_33_4,t_65,indexAddrV,t_23,encT65_eq,ag_65,ag_63,t_63,t_3,t_22,xk B33 [2,2,2,1,2,2,1,2,2,1,2] (.cd 16) rfl,h1,h3]
 rcases cond_some hF with ⟨h4,hF⟩ | ⟨h4,hF⟩
 ·cases hF
  simp (maxSteps:=999999) (disch:=first|exact D (by decide)|exact K (by kernel_rfl)) only [E,EE,↓reduceIte,simprocAttr,xk B33 [2,2,2,2,1,2,2,1,2,2,1,2] .sq rfl,rg B33 [1,2,2,2,2,1,2,2,1,2,2,1,2] 5 false rfl,hr_33_5,xk B33 [2,2,2,2,2,1,2,2,1,2,2,1,2] .rt rfl,R33_rai4z_l1.st,h1,h3,h4]
 ·have hJ := f33_rai4z_l1_j2_ok k x0 x8 x7 x8 false h0_ h0__1 h0__2 h0__3 _ hF
  simp (maxSteps:=999999) (disch:=first|exact D (by decide)|exact K (by kernel_rfl)) only [E,EE,↓reduceIte,simprocAttr,xk B33 [3,2,2,2,1,2,2,1,2,2,1,2] .sk rfl,h1,h3,h4]
  try simp only [NM,EE] at hJ
  exact hJ
noncomputable def f33_rai4z_l1_b (k : Nat) (x0 : List T65) (x7 x8 h0_ h0__1 h0__2 h0__3 : Int) : Option R33_rai4z_l1 :=
 cond ((decide (x8 < x7)))
  (f33_rai4z_l1_j1 k x0 x7 x8 true h0_ h0__1 h0__2 h0__3)
  (some (R33_rai4z_l1.o2 x0 x7 x8 false h0_ h0__1 h0__2 h0__3))
theorem f33_rai4z_l1_b_ok (k : Nat) (x0 : List T65) (x7 x8 h0_ h0__1 h0__2 h0__3 : Int) (r : R33_rai4z_l1) (hF : f33_rai4z_l1_b k x0 x7 x8 h0_ h0__1 h0__2 h0__3 = some r) : EX 33 k (nav B33 [1,2,2,1,2]) (⟨19,[(0,.sl 4 (rowsOf encT65 x0)),(3,.ptr 30000 0),(7,.p (.int .i64 x7)),(8,.p (.int .i64 x8))],[(30000,.box 65 [.p (.int .i64 h0_),.p (.int .u32 h0__1),.p (.int .i64 h0__2),.p (.int .i64 h0__3)])]⟩ : St) = some r.st := by
 unfold f33_rai4z_l1_b at hF
 simp (maxSteps:=999999) (disch:=first|exact D (by decide)|exact K (by kernel_rfl)) only [E,EE,↓reduceIte,simprocAttr,xk B33 [1,2,2,1,2] .sq rfl,rg B33 [1,1,2,2,1,2] 2 false rfl,hr_33_2,xk B33 [2,1,2,2,1,2] .sq rfl,xk B33 [1,2,1,2,2,1,2] (.cd 9) rfl]
 rcases cond_some hF with ⟨h1,hF⟩ | ⟨h1,hF⟩
 ·have hJ := f33_rai4z_l1_j1_ok k x0 x7 x8 true h0_ h0__1 h0__2 h0__3 _ hF
  simp (maxSteps:=999999) (disch:=first|exact D (by decide)|exact K (by kernel_rfl)) only [E,EE,↓reduceIte,simprocAttr,xk B33 [2,1,2,1,2,2,1,2] .sk rfl,h1]
  try simp only [NM,EE] at hJ
  exact hJ
 ·cases hF
  simp (maxSteps:=999999) (disch:=first|exact D (by decide)|exact K (by kernel_rfl)) only [E,EE,↓reduceIte,simprocAttr,xk B33 [3,1,2,1,2,2,1,2] (.ex 0) rfl,R33_rai4z_l1.st,h1]
noncomputable def f33_rai4z_l1 (k : Nat) : Nat → (List T65) → Int → Int → Int → Int → Int → Int → Option R33_rai4z_l1
 | 0,_,_,_,_,_,_,_ => none
 | n + 1,x0,x7,x8,h0_,h0__1,h0__2,h0__3 => Option.bind (f33_rai4z_l1_b k x0 x7 x8 h0_ h0__1 h0__2 h0__3) fun o =>
  match o with
  | .o0 y => some (.o0 y)
  | .o1 y y_1 y_2 y_3 y_4 y_5 y_6 => f33_rai4z_l1 k n y y_1 y_2 y_3 y_4 y_5 y_6
  | .o2 y y_1 y_2 y_3 y_4 y_5 y_6 y_7 => some (.o2 y y_1 y_2 y_3 y_4 y_5 y_6 y_7)
theorem f33_rai4z_l1_ok (k n : Nat) : ∀ (x0 : List T65) (x7 x8 h0_ h0__1 h0__2 h0__3 : Int) (r : R33_rai4z_l1) (hF : f33_rai4z_l1 k n x0 x7 x8 h0_ h0__1 h0__2 h0__3 = some r) (σ : St) (hσ : headR (hints.head 33 2) (hints.canon 33 2) σ = some (⟨19,[(0,.sl 4 (rowsOf encT65 x0)),(3,.ptr 30000 0),(7,.p (.int .i64 x7)),(8,.p (.int .i64 x8))],[(30000,.box 65 [.p (.int .i64 h0_),.p (.int .u32 h0__1),.p (.int .i64 h0__2),.p (.int .i64 h0__3)])]⟩ : St)),LP 33 k (nav B33 [1,2,2,1,2]) n σ = some r.st := by
 induction n with
 | zero => intro x0 x7 x8 h0_ h0__1 h0__2 h0__3 r hF; cases hF
 | succ n ih =>
  intro x0 x7 x8 h0_ h0__1 h0__2 h0__3 r hF σ hσ
  rw [f33_rai4z_l1] at hF
  obtain ⟨o,h,hF⟩ := Option.bind_eq_some_iff.1 hF
  have hB := f33_rai4z_l1_b_ok k x0 x7 x8 h0_ h0__1 h0__2 h0__3 o h
  unfold LP at ih ⊢
  unfold EX at hB
  rw [loopK_succ,show firstReg (nav B33 [1,2,2,1,2]) = 2 from rfl,hσ,headK_some,hB]
  cases o with
  | o0 y => cases hF; rfl
  | o1 y y_1 y_2 y_3 y_4 y_5 y_6 =>
   refine ih y y_1 y_2 y_3 y_4 y_5 y_6 r hF _ ?_
   simp (maxSteps:=999999) (disch:=first|exact D (by decide)|exact K (by kernel_rfl)) only [E,EE,↓reduceIte,simprocAttr,hh_33_2,hc_33_2]
  | o2 y y_1 y_2 y_3 y_4 y_5 y_6 y_7 => cases hF; rfl
noncomputable def f33_rai4z_j2 (k : Nat) (x0 : List T65) (x7 x8 : Int) (x9 : Bool) (h0_ h0__1 h0__2 h0__3 : Int) : Option R33_rai4z :=
 some (R33_rai4z.o0 (-1))
theorem f33_rai4z_j2_ok (k : Nat) (x0 : List T65) (x7 x8 : Int) (x9 : Bool) (h0_ h0__1 h0__2 h0__3 : Int) (r : R33_rai4z) (hF : f33_rai4z_j2 k x0 x7 x8 x9 h0_ h0__1 h0__2 h0__3 = some r) : finK Try.prog Try.f33 0 (EX 33 k (nav B33 [2,2]) (⟨19,[(0,.sl 4 (rowsOf encT65 x0)),(3,.ptr 30000 0),(7,.p (.int .i64 x7)),(8,.p (.int .i64 x8)),(9,.p (.bool x9))],[(30000,.box 65 [.p (.int .i64 h0_),.p (.int .u32 h0__1),.p (.int .i64 h0__2),.p (.int .i64 h0__3)])]⟩ : St)) = some r.st := by
 unfold f33_rai4z_j2 at hF
 cases hF
 simp (maxSteps:=999999) (disch:=first|exact D (by decide)|exact K (by kernel_rfl)) only [E,EE,↓reduceIte,simprocAttr,xk B33 [2,2] .sq rfl,rg B33 [1,2,2] 7 false rfl,hr_33_7,xk B33 [2,2,2] .rt rfl,finK_norm,finK_ret,fin33,R33_rai4z.st]
noncomputable def f33_rai4z_e (k : Nat) (a0 : List T65) (a1 a1_1 a1_2 a1_3 : Int) : Option R33_rai4z :=
 Option.bind (f33_rai4z_l1 k k a0 ((List.length a0) : Int) 0 a1 a1_1 a1_2 a1_3) fun o1 =>
  match o1 with
  | .o0 v4 =>
   some (R33_rai4z.o0 v4)
  | .o1 _ _ _ _ _ _ _ =>
   none
  | .o2 v5 v6 v7 v8 v9 v10 v11 v12 =>
   f33_rai4z_j2 k v5 v6 v7 v8 v9 v10 v11 v12
theorem f33_rai4z_e_ok (k : Nat) (a0 : List T65) (a1 a1_1 a1_2 a1_3 : Int) (r : R33_rai4z) (hF : f33_rai4z_e k a0 a1 a1_1 a1_2 a1_3 = some r) : finK Try.prog Try.f33 0 (EX 33 k (nav B33 []) (⟨19,[(0,.sl 4 (rowsOf encT65 a0)),(1,.agg [.p (.int .i64 a1),.p (.int .u32 a1_1),.p (.int .i64 a1_2),.p (.int .i64 a1_3)])],[]⟩ : St)) = some r.st := by
 unfold f33_rai4z_e at hF
 obtain ⟨o1,h2,hF⟩ := bs hF
 have hc3 := f33_rai4z_l1_ok k k a0 ((List.length a0) : Int) 0 a1 a1_1 a1_2 a1_3 _ h2
 simp (maxSteps:=999999) (disch:=first|exact D (by decide)|exact K (by kernel_rfl)) only [E,EE,↓reduceIte,simprocAttr,xk B33 [] .sq rfl,rg B33 [1] 0 false rfl,hr_33_0,xk B33 [2] .sq rfl,xk B33 [1,2] .sq rfl,rg B33 [1,1,2] 1 false rfl,hr_33_1,t_23,xk B33 [2,1,2] (.bk 0) rfl,xk B33 [2,2,1,2] .lp rfl,hh_33_2,hc_33_2]
 (try simp only [NM,EE] at hc3)
 rw [hc3 _ (by simp (maxSteps:=999999) (disch:=first|exact D (by decide)|exact K (by kernel_rfl)) only [E,EE,↓reduceIte,simprocAttr,hh_33_2,hc_33_2])]
 clear hc3
 cases o1 with
 | o0 v4 =>
  (try dsimp only at hF)
  cases hF
  simp (maxSteps:=999999) (disch:=first|exact D (by decide)|exact K (by kernel_rfl)) only [E,EE,↓reduceIte,simprocAttr,R33_rai4z_l1.st,finK_norm,finK_ret,fin33,R33_rai4z.st]
 | o1 _ _ _ _ _ _ _ =>
  (try dsimp only at hF)
  cases hF
 | o2 v5 v6 v7 v8 v9 v10 v11 v12 =>
  (try dsimp only at hF)
  have hJ := f33_rai4z_j2_ok k v5 v6 v7 v8 v9 v10 v11 v12 _ hF
  simp (maxSteps:=999999) (disch:=first|exact D (by decide)|exact K (by kernel_rfl)) only [E,EE,↓reduceIte,simprocAttr,R33_rai4z_l1.st]
  try simp only [NM,EE] at hJ
  exact hJ
noncomputable def f33_rai4z (k : Nat) (a0 : List T65) (a1 a1_1 a1_2 a1_3 : Int) : Option R33_rai4z := match k with | 0 => none | k + 1 => f33_rai4z_e k a0 a1 a1_1 a1_2 a1_3
theorem f33_rai4z_ok (k : Nat) (a0 : List T65) (a1 a1_1 a1_2 a1_3 : Int) (r : R33_rai4z) (hF : f33_rai4z k a0 a1 a1_1 a1_2 a1_3 = some r) : CV k 33 [.sl 4 (rowsOf encT65 a0),.agg [.p (.int .i64 a1),.p (.int .u32 a1_1),.p (.int .i64 a1_2),.p (.int .i64 a1_3)]] [] = some r.st := by
 cases k with
 | zero => cases hF
 | succ k =>
  unfold CV
  rw [ev_call (F := Try.f33) (c := (nav B33 [])) rfl Try.func33 rfl rfl rfl rfl]
  exact f33_rai4z_e_ok k a0 a1 a1_1 a1_2 a1_3 r hF
-- f45_iii: f45 heliograph/bundle.within
inductive R45_iii where
 | o0 (y : Bool)
noncomputable def R45_iii.st : R45_iii → V × List O × List O
 | .o0 y => (.p (.bool y),[],[])
noncomputable def f45_iii_e (k : Nat) (a0 a1 a2 : Int) : Option R45_iii :=
 cond ((decide (a0 ≥ a1)))
  (some (R45_iii.o0 (decide (a0 ≤ a2))))
  (some (R45_iii.o0 false))
theorem f45_iii_e_ok (k : Nat) (a0 a1 a2 : Int) (r : R45_iii) (hF : f45_iii_e k a0 a1 a2 = some r) : finK Try.prog Try.f45 0 (EX 45 k (nav B45 []) (⟨15,[(0,.p (.int .i64 a0)),(1,.p (.int .i64 a1)),(2,.p (.int .i64 a2))],[]⟩ : St)) = some r.st := by
 unfold f45_iii_e at hF
 simp (maxSteps:=999999) (disch:=first|exact D (by decide)|exact K (by kernel_rfl)) only [E,EE,↓reduceIte,simprocAttr,xk B45 [] .sq rfl,rg B45 [1] 0 false rfl,hr_45_0,xk B45 [2] .sq rfl,rg B45 [1,2] 1 false rfl,hr_45_1]
 rcases cond_some hF with ⟨h1,hF⟩ | ⟨h1,hF⟩
 ·cases hF
  simp (maxSteps:=999999) (disch:=first|exact D (by decide)|exact K (by kernel_rfl)) only [E,EE,↓reduceIte,simprocAttr,xk B45 [2,2] .rt rfl,finK_norm,finK_ret,fin45,R45_iii.st,h1]
 ·cases hF
  simp (maxSteps:=999999) (disch:=first|exact D (by decide)|exact K (by kernel_rfl)) only [E,EE,↓reduceIte,simprocAttr,xk B45 [2,2] .rt rfl,finK_norm,finK_ret,fin45,R45_iii.st,h1]
noncomputable def f45_iii (k : Nat) (a0 a1 a2 : Int) : Option R45_iii := match k with | 0 => none | k + 1 => f45_iii_e k a0 a1 a2
theorem f45_iii_ok (k : Nat) (a0 a1 a2 : Int) (r : R45_iii) (hF : f45_iii k a0 a1 a2 = some r) : CV k 45 [.p (.int .i64 a0),.p (.int .i64 a1),.p (.int .i64 a2)] [] = some r.st := by
 cases k with
 | zero => cases hF
 | succ k =>
  unfold CV
  rw [ev_call (F := Try.f45) (c := (nav B45 [])) rfl Try.func45 rfl rfl rfl rfl]
  exact f45_iii_e_ok k a0 a1 a2 r hF
end Go.Proofs.YticggdfaehneeaaV
