/- What the program's functions answer: plain functions,and that the interpreter answers what they do. Written by a program of this session,out of the translation. -/
import Derived.Test.YticggdfaehneeaaVP1
namespace Go.Proofs.YticggdfaehneeaaV
open Go
set_option linter.unusedVariables false
set_option linter.unusedSimpArgs false
set_option maxRecDepth 8000
set_option maxHeartbeats 4000000
-- f40_rrf41: f40 slices.EqualFunc[[]heliograph/api.Bundle,[]heliograph/api.Bundle,heliograph/api.Bundle,heliograph/api.Bundle]
inductive R40_rrf41 where
 | o0 (y:Bool)
noncomputable def R40_rrf41.st : R40_rrf41 → V × List O × List O
 | .o0 y => (.p (.bool y),[],[])
inductive R40_rrf41_l2 where
 | o0 (y:Bool)
 | o1 (y y_1:List T39) (y_2 y_3:Int)
 | o2 (y y_1:List T39) (y_2 y_3:Int) (y_4:Bool)
noncomputable def R40_rrf41_l2.st : R40_rrf41_l2 → Out × St
 | .o0 y => (.ret,(⟨32,[(6,.p (.bool y))],[]⟩ : St))
 | .o1 y y_1 y_2 y_3 => (.norm,(⟨32,[(1,.sl 11 (rowsOf encT39 y)),(2,V.p (Value.func (Fn.func 41) #[] #[])),(15,.sl 11 (rowsOf encT39 y_1)),(16,.p (.int .i64 y_2)),(17,.p (.int .i64 y_3))],[]⟩ : St))
 | .o2 y y_1 y_2 y_3 y_4 => (.exit 0,(⟨32,[(1,.sl 11 (rowsOf encT39 y)),(2,V.p (Value.func (Fn.func 41) #[] #[])),(15,.sl 11 (rowsOf encT39 y_1)),(16,.p (.int .i64 y_2)),(17,.p (.int .i64 y_3)),(18,.p (.bool y_4))],[]⟩ : St))
noncomputable def f40_rrf41_l2_j2 (k:Nat) (x1 x15:List T39) (x16 x17:Int) (x30:Bool) : Option R40_rrf41_l2 :=
 some (R40_rrf41_l2.o1 x1 x15 x16 (IntKind.i64.wrap (x17 + (1:Int))))
theorem f40_rrf41_l2_j2_ok (k:Nat) (x1 x15:List T39) (x16 x17:Int) (x30:Bool) (r:R40_rrf41_l2) (hF:f40_rrf41_l2_j2 k x1 x15 x16 x17 x30 = some r) : EX 40 k (nav B40 [2,2,2,1,2,2,1,2,2]) (⟨32,[(1,.sl 11 (rowsOf encT39 x1)),(2,V.p (Value.func (Fn.func 41) #[] #[])),(15,.sl 11 (rowsOf encT39 x15)),(16,.p (.int .i64 x16)),(17,.p (.int .i64 x17)),(30,.p (.bool x30))],[]⟩ : St) = some r.st := by
 unfold f40_rrf41_l2_j2 at hF
 cases hF
 simp (maxSteps:=999999) (disch:=first|exact D (by decide)|exact K (by kernel_rfl)) only [E,EE,↓reduceIte,simprocAttr,rg B40 [2,2,2,1,2,2,1,2,2] 9 false rfl,hr_40_9,R40_rrf41_l2.st]
noncomputable def f40_rrf41_l2_j1 (k:Nat) (x1 x15:List T39) (x16 x17:Int) (x18:Bool) : Option R40_rrf41_l2 :=
 ifE ((0:Int) ≤ x17) (
  Option.bind (x15[(Int.toNat x17)]?) fun v2 =>
   Option.bind (x1[(Int.toNat x17)]?) fun v4 =>
    Option.bind (f41_ai10rzai10rz k v2.Source v2.Dest v2.Seq v2.Created v2.Lifetime v2.HopLimit v2.Hops v2.Priority v2.Offset v2.Total v2.Payload v4.Source v4.Dest v4.Seq v4.Created v4.Lifetime v4.HopLimit v4.Hops v4.Priority v4.Offset v4.Total v4.Payload) fun o6 =>
     match o6 with
     | .o0 v9 =>
      cond ((!v9))
       (some (R40_rrf41_l2.o0 false))
       (f40_rrf41_l2_j2 k x1 x15 x16 x17 false))
theorem f40_rrf41_l2_j1_ok (k:Nat) (x1 x15:List T39) (x16 x17:Int) (x18:Bool) (r:R40_rrf41_l2) (hF:f40_rrf41_l2_j1 k x1 x15 x16 x17 x18 = some r) : EX 40 k (nav B40 [2,2,1,2,2,1,2,2]) (⟨32,[(1,.sl 11 (rowsOf encT39 x1)),(2,V.p (Value.func (Fn.func 41) #[] #[])),(15,.sl 11 (rowsOf encT39 x15)),(16,.p (.int .i64 x16)),(17,.p (.int .i64 x17)),(18,.p (.bool x18))],[]⟩ : St) = some r.st := by
 unfold f40_rrf41_l2_j1 at hF
 obtain ⟨h1,hF⟩ := ifE_some.1 hF
 obtain ⟨v2,h3,hF⟩ := bs hF
 obtain ⟨v4,h5,hF⟩ := bs hF
 obtain ⟨o6,h7,hF⟩ := bs hF
 have hc8 := f41_ai10rzai10rz_ok k v2.Source v2.Dest v2.Seq v2.Created v2.Lifetime v2.HopLimit v2.Hops v2.Priority v2.Offset v2.Total v2.Payload v4.Source v4.Dest v4.Seq v4.Created v4.Lifetime v4.HopLimit v4.Hops v4.Priority v4.Offset v4.Total v4.Payload _ h7
 cases o6 with
 | o0 v9 =>
  (try dsimp only at hF)
  (try simp only [NM,EE,R41_ai10rzai10rz.st] at hc8)
  simp (maxSteps:=999999) (disch:=first|exact D (by decide)|exact K (by kernel_rfl)) only [E,EE,↓reduceIte,simprocAttr,xk B40 [2,2,1,2,2,1,2,2] .sq rfl,xk B40 [1,2,2,1,2,2,1,2,2] (.bk 1) rfl,xk B40 [2,1,2,2,1,2,2,1,2,2] .sq rfl,rg B40 [1,2,1,2,2,1,2,2,1,2,2] 5 false rfl,hr_40_5,indexAddrV,t_24,t_39,encT39_eq,xk B40 [2,2,1,2,2,1,2,2,1,2,2] .sq rfl,rg B40 [1,2,2,1,2,2,1,2,2,1,2,2] 6 false rfl,hr_40_6,xk B40 [2,2,2,1,2,2,1,2,2,1,2,2] .sq rfl,rg B40 [1,2,2,2,1,2,2,1,2,2,1,2,2] 7 false rfl,hr_40_7,callStep,CL,gv,List.contains,xk B40 [2,2,2,2,1,2,2,1,2,2,1,2,2] (.cd 30) rfl,h1,h3,h5,hc8]
  rcases cond_some hF with ⟨h10,hF⟩ | ⟨h10,hF⟩
  ·cases hF
   simp (maxSteps:=999999) (disch:=first|exact D (by decide)|exact K (by kernel_rfl)) only [E,EE,↓reduceIte,simprocAttr,xk B40 [2,2,2,2,2,1,2,2,1,2,2,1,2,2] .sq rfl,rg B40 [1,2,2,2,2,2,1,2,2,1,2,2,1,2,2] 8 false rfl,hr_40_8,xk B40 [2,2,2,2,2,2,1,2,2,1,2,2,1,2,2] .rt rfl,R40_rrf41_l2.st,h1,h3,h5,hc8,h10]
  ·have hJ := f40_rrf41_l2_j2_ok k x1 x15 x16 x17 false _ hF
   simp (maxSteps:=999999) (disch:=first|exact D (by decide)|exact K (by kernel_rfl)) only [E,EE,↓reduceIte,simprocAttr,xk B40 [3,2,2,2,2,1,2,2,1,2,2,1,2,2] .sk rfl,h1,h3,h5,hc8,h10]
   try simp only [NM,EE] at hJ
   exact hJ
noncomputable def f40_rrf41_l2_b (k:Nat) (x1 x15:List T39) (x16 x17:Int) : Option R40_rrf41_l2 :=
 cond ((decide (x17 < x16)))
  (f40_rrf41_l2_j1 k x1 x15 x16 x17 true)
  (some (R40_rrf41_l2.o2 x1 x15 x16 x17 false))
theorem f40_rrf41_l2_b_ok (k:Nat) (x1 x15:List T39) (x16 x17:Int) (r:R40_rrf41_l2) (hF:f40_rrf41_l2_b k x1 x15 x16 x17 = some r) : EX 40 k (nav B40 [1,2,2,1,2,2]) (⟨32,[(1,.sl 11 (rowsOf encT39 x1)),(2,V.p (Value.func (Fn.func 41) #[] #[])),(15,.sl 11 (rowsOf encT39 x15)),(16,.p (.int .i64 x16)),(17,.p (.int .i64 x17))],[]⟩ : St) = some r.st := by
 unfold f40_rrf41_l2_b at hF
 simp (maxSteps:=999999) (disch:=first|exact D (by decide)|exact K (by kernel_rfl)) only [E,EE,↓reduceIte,simprocAttr,xk B40 [1,2,2,1,2,2] .sq rfl,rg B40 [1,1,2,2,1,2,2] 4 false rfl,hr_40_4,xk B40 [2,1,2,2,1,2,2] .sq rfl,xk B40 [1,2,1,2,2,1,2,2] (.cd 18) rfl]
 rcases cond_some hF with ⟨h1,hF⟩ | ⟨h1,hF⟩
 ·have hJ := f40_rrf41_l2_j1_ok k x1 x15 x16 x17 true _ hF
  simp (maxSteps:=999999) (disch:=first|exact D (by decide)|exact K (by kernel_rfl)) only [E,EE,↓reduceIte,simprocAttr,xk B40 [2,1,2,1,2,2,1,2,2] .sk rfl,h1]
  try simp only [NM,EE] at hJ
  exact hJ
 ·cases hF
  simp (maxSteps:=999999) (disch:=first|exact D (by decide)|exact K (by kernel_rfl)) only [E,EE,↓reduceIte,simprocAttr,xk B40 [3,1,2,1,2,2,1,2,2] (.ex 0) rfl,R40_rrf41_l2.st,h1]
noncomputable def f40_rrf41_l2 (k:Nat) : Nat → (List T39) → (List T39) → Int → Int → Option R40_rrf41_l2
 | 0,_,_,_,_ => none
 | n + 1,x1,x15,x16,x17 => Option.bind (f40_rrf41_l2_b k x1 x15 x16 x17) fun o =>
  match o with
  | .o0 y => some (.o0 y)
  | .o1 y y_1 y_2 y_3 => f40_rrf41_l2 k n y y_1 y_2 y_3
  | .o2 y y_1 y_2 y_3 y_4 => some (.o2 y y_1 y_2 y_3 y_4)
theorem f40_rrf41_l2_ok (k n:Nat) : ∀ (x1 x15:List T39) (x16 x17:Int) (r:R40_rrf41_l2) (hF:f40_rrf41_l2 k n x1 x15 x16 x17 = some r) (σ:St) (hσ:headR (hints.head 40 4) (hints.canon 40 4) σ = some (⟨32,[(1,.sl 11 (rowsOf encT39 x1)),(2,V.p (Value.func (Fn.func 41) #[] #[])),(15,.sl 11 (rowsOf encT39 x15)),(16,.p (.int .i64 x16)),(17,.p (.int .i64 x17))],[]⟩ : St)),LP 40 k (nav B40 [1,2,2,1,2,2]) n σ = some r.st := by
 induction n with
 | zero => intro x1 x15 x16 x17 r hF; cases hF
 | succ n ih =>
  intro x1 x15 x16 x17 r hF σ hσ
  rw [f40_rrf41_l2] at hF
  obtain ⟨o,h,hF⟩ := Option.bind_eq_some_iff.1 hF
  have hB := f40_rrf41_l2_b_ok k x1 x15 x16 x17 o h
  unfold LP at ih ⊢
  unfold EX at hB
  rw [loopK_succ,show firstReg (nav B40 [1,2,2,1,2,2]) = 4 from rfl,hσ,headK_some,hB]
  cases o with
  | o0 y => cases hF; rfl
  | o1 y y_1 y_2 y_3 =>
   refine ih y y_1 y_2 y_3 r hF _ ?_
   simp (maxSteps:=999999) (disch:=first|exact D (by decide)|exact K (by kernel_rfl)) only [E,EE,↓reduceIte,simprocAttr,hh_40_4,hc_40_4]
  | o2 y y_1 y_2 y_3 y_4 => cases hF; rfl
noncomputable def f40_rrf41_j3 (k:Nat) (x1 x15:List T39) (x16 x17:Int) (x18:Bool) : Option R40_rrf41 :=
 some (R40_rrf41.o0 true)
theorem f40_rrf41_j3_ok (k:Nat) (x1 x15:List T39) (x16 x17:Int) (x18:Bool) (r:R40_rrf41) (hF:f40_rrf41_j3 k x1 x15 x16 x17 x18 = some r) : finK Try.prog Try.f40 0 (EX 40 k (nav B40 [2,2,2]) (⟨32,[(1,.sl 11 (rowsOf encT39 x1)),(2,V.p (Value.func (Fn.func 41) #[] #[])),(15,.sl 11 (rowsOf encT39 x15)),(16,.p (.int .i64 x16)),(17,.p (.int .i64 x17)),(18,.p (.bool x18))],[]⟩ : St)) = some r.st := by
 unfold f40_rrf41_j3 at hF
 cases hF
 simp (maxSteps:=999999) (disch:=first|exact D (by decide)|exact K (by kernel_rfl)) only [E,EE,↓reduceIte,simprocAttr,xk B40 [2,2,2] .sq rfl,rg B40 [1,2,2,2] 10 false rfl,hr_40_10,xk B40 [2,2,2,2] .rt rfl,finK_norm,finK_ret,fin40,R40_rrf41.st]
noncomputable def f40_rrf41_j1 (k:Nat) (x0 x1:List T39) (x14:Bool) : Option R40_rrf41 :=
 Option.bind (f40_rrf41_l2 k k x1 x0 ((List.length x0) : Int) 0) fun o1 =>
  match o1 with
  | .o0 v4 =>
   some (R40_rrf41.o0 v4)
  | .o1 _ _ _ _ =>
   none
  | .o2 v5 v6 v7 v8 v9 =>
   f40_rrf41_j3 k v5 v6 v7 v8 v9
theorem f40_rrf41_j1_ok (k:Nat) (x0 x1:List T39) (x14:Bool) (r:R40_rrf41) (hF:f40_rrf41_j1 k x0 x1 x14 = some r) : finK Try.prog Try.f40 0 (EX 40 k (nav B40 [2,2]) (⟨32,[(0,.sl 11 (rowsOf encT39 x0)),(1,.sl 11 (rowsOf encT39 x1)),(2,V.p (Value.func (Fn.func 41) #[] #[])),(14,.p (.bool x14))],[]⟩ : St)) = some r.st := by
 unfold f40_rrf41_j1 at hF
 obtain ⟨o1,h2,hF⟩ := bs hF
 have hc3 := f40_rrf41_l2_ok k k x1 x0 ((List.length x0) : Int) 0 _ h2
 simp (maxSteps:=999999) (disch:=first|exact D (by decide)|exact K (by kernel_rfl)) only [E,EE,↓reduceIte,simprocAttr,xk B40 [2,2] .sq rfl,xk B40 [1,2,2] .sq rfl,rg B40 [1,1,2,2] 3 false rfl,hr_40_3,t_24,xk B40 [2,1,2,2] (.bk 0) rfl,xk B40 [2,2,1,2,2] .lp rfl,hh_40_4,hc_40_4]
 (try simp only [NM,EE] at hc3)
 rw [hc3 _ (by simp (maxSteps:=999999) (disch:=first|exact D (by decide)|exact K (by kernel_rfl)) only [E,EE,↓reduceIte,simprocAttr,hh_40_4,hc_40_4])]
 clear hc3
 cases o1 with
 | o0 v4 =>
  (try dsimp only at hF)
  cases hF
  simp (maxSteps:=999999) (disch:=first|exact D (by decide)|exact K (by kernel_rfl)) only [E,EE,↓reduceIte,simprocAttr,R40_rrf41_l2.st,finK_norm,finK_ret,fin40,R40_rrf41.st]
 | o1 _ _ _ _ =>
  (try dsimp only at hF)
  cases hF
 | o2 v5 v6 v7 v8 v9 =>
  (try dsimp only at hF)
  have hJ := f40_rrf41_j3_ok k v5 v6 v7 v8 v9 _ hF
  simp (maxSteps:=999999) (disch:=first|exact D (by decide)|exact K (by kernel_rfl)) only [E,EE,↓reduceIte,simprocAttr,R40_rrf41_l2.st]
  try simp only [NM,EE] at hJ
  exact hJ
noncomputable def f40_rrf41_e (k:Nat) (a0 a1:List T39) : Option R40_rrf41 :=
 cond ((((List.length a0) : Int) != ((List.length a1) : Int)))
  (some (R40_rrf41.o0 false))
  (f40_rrf41_j1 k a0 a1 false)
theorem f40_rrf41_e_ok (k:Nat) (a0 a1:List T39) (r:R40_rrf41) (hF:f40_rrf41_e k a0 a1 = some r) : finK Try.prog Try.f40 0 (EX 40 k (nav B40 []) (⟨32,[(0,.sl 11 (rowsOf encT39 a0)),(1,.sl 11 (rowsOf encT39 a1)),(2,V.p (Value.func (Fn.func 41) #[] #[]))],[]⟩ : St)) = some r.st := by
 unfold f40_rrf41_e at hF
 simp (maxSteps:=999999) (disch:=first|exact D (by decide)|exact K (by kernel_rfl)) only [E,EE,↓reduceIte,simprocAttr,xk B40 [] .sq rfl,rg B40 [1] 0 false rfl,hr_40_0,xk B40 [2] .sq rfl,xk B40 [1,2] .sq rfl,rg B40 [1,1,2] 1 false rfl,hr_40_1,t_24,xk B40 [2,1,2] (.cd 14) rfl]
 rcases cond_some hF with ⟨h1,hF⟩ | ⟨h1,hF⟩
 ·cases hF
  simp (maxSteps:=999999) (disch:=first|exact D (by decide)|exact K (by kernel_rfl)) only [E,EE,↓reduceIte,simprocAttr,xk B40 [2,2,1,2] .sq rfl,rg B40 [1,2,2,1,2] 2 false rfl,hr_40_2,xk B40 [2,2,2,1,2] .rt rfl,finK_norm,finK_ret,fin40,R40_rrf41.st,h1]
 ·have hJ := f40_rrf41_j1_ok k a0 a1 false _ hF
  simp (maxSteps:=999999) (disch:=first|exact D (by decide)|exact K (by kernel_rfl)) only [E,EE,↓reduceIte,simprocAttr,xk B40 [3,2,1,2] .sk rfl,h1]
  try simp only [NM,EE] at hJ
  exact hJ
noncomputable def f40_rrf41 (k:Nat) (a0 a1:List T39) : Option R40_rrf41 := match k with | 0 => none | k + 1 => f40_rrf41_e k a0 a1
theorem f40_rrf41_ok (k:Nat) (a0 a1:List T39) (r:R40_rrf41) (hF:f40_rrf41 k a0 a1 = some r) : CV k 40 [.sl 11 (rowsOf encT39 a0),.sl 11 (rowsOf encT39 a1),V.p (Value.func (Fn.func 41) #[] #[])] [] = some r.st := by
 cases k with
 | zero => cases hF
 | succ k =>
  unfold CV
  rw [ev_call (F := Try.f40) (c := (nav B40 [])) rfl Try.func40 rfl rfl rfl rfl]
  exact f40_rrf41_e_ok k a0 a1 r hF
-- f21_aiirrzaiirrz: f21 heliograph/agent.Same
inductive R21_aiirrzaiirrz where
 | o0 (y:Bool)
noncomputable def R21_aiirrzaiirrz.st : R21_aiirrzaiirrz → V × List O × List O
 | .o0 y => (.p (.bool y),[],[])
noncomputable def f21_aiirrzaiirrz_e (k:Nat) (a0 a0_1:Int) (a0_2:List T65) (a0_3:List T39) (a1 a1_1:Int) (a1_2:List T65) (a1_3:List T39) : Option R21_aiirrzaiirrz :=
 cond ((a0 == a1))
  (
   cond ((a0_1 == a1_1))
    (
     Option.bind (f39_rr k a0_2 a1_2) fun o3 =>
      match o3 with
      | .o0 v6 =>
       cond (v6)
        (
         Option.bind (f40_rrf41 k a0_3 a1_3) fun o8 =>
          match o8 with
          | .o0 v11 =>
           some (R21_aiirrzaiirrz.o0 v11))
        (some (R21_aiirrzaiirrz.o0 false)))
    (some (R21_aiirrzaiirrz.o0 false)))
  (some (R21_aiirrzaiirrz.o0 false))
theorem f21_aiirrzaiirrz_e_ok (k:Nat) (a0 a0_1:Int) (a0_2:List T65) (a0_3:List T39) (a1 a1_1:Int) (a1_2:List T65) (a1_3:List T39) (r:R21_aiirrzaiirrz) (hF:f21_aiirrzaiirrz_e k a0 a0_1 a0_2 a0_3 a1 a1_1 a1_2 a1_3 = some r) : finK Try.prog Try.f21 0 (EX 21 k (nav B21 []) (⟨31,[(0,.agg [.p (.int .i64 a0),.p (.int .u32 a0_1),.sl 4 (rowsOf encT65 a0_2),.sl 11 (rowsOf encT39 a0_3)]),(1,.agg [.p (.int .i64 a1),.p (.int .u32 a1_1),.sl 4 (rowsOf encT65 a1_2),.sl 11 (rowsOf encT39 a1_3)])],[]⟩ : St)) = some r.st := by
 unfold f21_aiirrzaiirrz_e at hF
 simp (maxSteps:=999999) (disch:=first|exact D (by decide)|exact K (by kernel_rfl)) only [E,EE,↓reduceIte,simprocAttr,xk B21 [] .sq rfl,rg B21 [1] 0 false rfl,hr_21_0,xk B21 [2] .sq rfl,rg B21 [1,2] 1 false rfl,hr_21_1,fieldAddrV,t_26,t_3]
 rcases cond_some hF with ⟨h1,hF⟩ | ⟨h1,hF⟩
 ·simp (maxSteps:=999999) (disch:=first|exact D (by decide)|exact K (by kernel_rfl)) only [E,EE,↓reduceIte,simprocAttr,fieldAddrV,t_26,t_22,h1]
  rcases cond_some hF with ⟨h2,hF⟩ | ⟨h2,hF⟩
  ·obtain ⟨o3,h4,hF⟩ := bs hF
   have hc5 := f39_rr_ok k a0_2 a1_2 _ h4
   cases o3 with
   | o0 v6 =>
    (try dsimp only at hF)
    (try simp only [NM,EE,R39_rr.st] at hc5)
    simp (maxSteps:=999999) (disch:=first|exact D (by decide)|exact K (by kernel_rfl)) only [E,EE,↓reduceIte,simprocAttr,fieldAddrV,t_26,t_23,callStep,CL,gv,List.contains,h1,h2,hc5]
    rcases cond_some hF with ⟨h7,hF⟩ | ⟨h7,hF⟩
    ·obtain ⟨o8,h9,hF⟩ := bs hF
     have hc10 := f40_rrf41_ok k a0_3 a1_3 _ h9
     cases o8 with
     | o0 v11 =>
      (try dsimp only at hF)
      (try simp only [NM,EE,R40_rrf41.st] at hc10)
      cases hF
      simp (maxSteps:=999999) (disch:=first|exact D (by decide)|exact K (by kernel_rfl)) only [E,EE,↓reduceIte,simprocAttr,fieldAddrV,t_26,t_24,callStep,CL,gv,List.contains,xk B21 [2,2] .rt rfl,finK_norm,finK_ret,fin21,R21_aiirrzaiirrz.st,h1,h2,hc5,h7,hc10]
    ·cases hF
     simp (maxSteps:=999999) (disch:=first|exact D (by decide)|exact K (by kernel_rfl)) only [E,EE,↓reduceIte,simprocAttr,xk B21 [2,2] .rt rfl,finK_norm,finK_ret,fin21,R21_aiirrzaiirrz.st,h1,h2,hc5,h7]
  ·cases hF
   simp (maxSteps:=999999) (disch:=first|exact D (by decide)|exact K (by kernel_rfl)) only [E,EE,↓reduceIte,simprocAttr,xk B21 [2,2] .rt rfl,finK_norm,finK_ret,fin21,R21_aiirrzaiirrz.st,h1,h2]
 ·cases hF
  simp (maxSteps:=999999) (disch:=first|exact D (by decide)|exact K (by kernel_rfl)) only [E,EE,↓reduceIte,simprocAttr,xk B21 [2,2] .rt rfl,finK_norm,finK_ret,fin21,R21_aiirrzaiirrz.st,h1]
noncomputable def f21_aiirrzaiirrz (k:Nat) (a0 a0_1:Int) (a0_2:List T65) (a0_3:List T39) (a1 a1_1:Int) (a1_2:List T65) (a1_3:List T39) : Option R21_aiirrzaiirrz := match k with | 0 => none | k + 1 => f21_aiirrzaiirrz_e k a0 a0_1 a0_2 a0_3 a1 a1_1 a1_2 a1_3
theorem f21_aiirrzaiirrz_ok (k:Nat) (a0 a0_1:Int) (a0_2:List T65) (a0_3:List T39) (a1 a1_1:Int) (a1_2:List T65) (a1_3:List T39) (r:R21_aiirrzaiirrz) (hF:f21_aiirrzaiirrz k a0 a0_1 a0_2 a0_3 a1 a1_1 a1_2 a1_3 = some r) : CV k 21 [.agg [.p (.int .i64 a0),.p (.int .u32 a0_1),.sl 4 (rowsOf encT65 a0_2),.sl 11 (rowsOf encT39 a0_3)],.agg [.p (.int .i64 a1),.p (.int .u32 a1_1),.sl 4 (rowsOf encT65 a1_2),.sl 11 (rowsOf encT39 a1_3)]] [] = some r.st := by
 cases k with
 | zero => cases hF
 | succ k =>
  unfold CV
  rw [ev_call (F := Try.f21) (c := (nav B21 [])) rfl Try.func21 rfl rfl rfl rfl]
  exact f21_aiirrzaiirrz_e_ok k a0 a0_1 a0_2 a0_3 a1 a1_1 a1_2 a1_3 r hF
-- f30_rr: f30 heliograph/heliographref01.Same
inductive R30_rr where
 | o0 (y:Bool)
noncomputable def R30_rr.st : R30_rr → V × List O × List O
 | .o0 y => (.p (.bool y),[],[])
inductive R30_rr_l2 where
 | o0 (y:Bool)
 | o1 (y y_1:List Int) (y_2:Int)
 | o2 (y y_1:List Int) (y_2:Int) (y_3:Bool)
noncomputable def R30_rr_l2.st : R30_rr_l2 → Out × St
 | .o0 y => (.ret,(⟨26,[(4,.p (.bool y))],[]⟩ : St))
 | .o1 y y_1 y_2 => (.norm,(⟨26,[(0,.sl 1 (rowsOf (encI .u8) y)),(1,.sl 1 (rowsOf (encI .u8) y_1)),(5,.p (.int .i64 y_2))],[]⟩ : St))
 | .o2 y y_1 y_2 y_3 => (.exit 0,(⟨26,[(0,.sl 1 (rowsOf (encI .u8) y)),(1,.sl 1 (rowsOf (encI .u8) y_1)),(5,.p (.int .i64 y_2)),(14,.p (.bool y_3))],[]⟩ : St))
noncomputable def f30_rr_l2_j2 (k:Nat) (x0 x1:List Int) (x5:Int) (x25:Bool) : Option R30_rr_l2 :=
 some (R30_rr_l2.o1 x0 x1 (IntKind.i64.wrap (x5 + (1:Int))))
theorem f30_rr_l2_j2_ok (k:Nat) (x0 x1:List Int) (x5:Int) (x25:Bool) (r:R30_rr_l2) (hF:f30_rr_l2_j2 k x0 x1 x5 x25 = some r) : EX 30 k (nav B30 [2,2,1,2,2,1,2,2]) (⟨26,[(0,.sl 1 (rowsOf (encI .u8) x0)),(1,.sl 1 (rowsOf (encI .u8) x1)),(5,.p (.int .i64 x5)),(25,.p (.bool x25))],[]⟩ : St) = some r.st := by
 unfold f30_rr_l2_j2 at hF
 cases hF
 simp (maxSteps:=999999) (disch:=first|exact D (by decide)|exact K (by kernel_rfl)) only [E,EE,↓reduceIte,simprocAttr,rg B30 [2,2,1,2,2,1,2,2] 5 false rfl,hr_30_5,R30_rr_l2.st]
noncomputable def f30_rr_l2_j1 (k:Nat) (x0 x1:List Int) (x5:Int) (x14:Bool) : Option R30_rr_l2 :=
 ifE ((0:Int) ≤ x5) (
  Option.bind (x0[(Int.toNat x5)]?) fun v2 =>
   Option.bind (x1[(Int.toNat x5)]?) fun v4 =>
    cond ((v2 != v4))
     (some (R30_rr_l2.o0 false))
     (f30_rr_l2_j2 k x0 x1 x5 false))
theorem f30_rr_l2_j1_ok (k:Nat) (x0 x1:List Int) (x5:Int) (x14:Bool) (r:R30_rr_l2) (hF:f30_rr_l2_j1 k x0 x1 x5 x14 = some r) : EX 30 k (nav B30 [2,1,2,2,1,2,2]) (⟨26,[(0,.sl 1 (rowsOf (encI .u8) x0)),(1,.sl 1 (rowsOf (encI .u8) x1)),(5,.p (.int .i64 x5)),(14,.p (.bool x14))],[]⟩ : St) = some r.st := by
 unfold f30_rr_l2_j1 at hF
 obtain ⟨h1,hF⟩ := ifE_some.1 hF
 obtain ⟨v2,h3,hF⟩ := bs hF
 obtain ⟨v4,h5,hF⟩ := bs hF
 simp (maxSteps:=999999) (disch:=first|exact D (by decide)|exact K (by kernel_rfl)) only [E,EE,↓reduceIte,simprocAttr,xk B30 [2,1,2,2,1,2,2] .sq rfl,xk B30 [1,2,1,2,2,1,2,2] (.bk 1) rfl,xk B30 [2,1,2,1,2,2,1,2,2] .sq rfl,rg B30 [1,2,1,2,1,2,2,1,2,2] 6 true rfl,hr_30_6,indexAddrV,t_29,t_5,encI_eq,xk B30 [2,2,1,2,1,2,2,1,2,2] (.cd 25) rfl,h1,h3,h5]
 rcases cond_some hF with ⟨h6,hF⟩ | ⟨h6,hF⟩
 ·cases hF
  simp (maxSteps:=999999) (disch:=first|exact D (by decide)|exact K (by kernel_rfl)) only [E,EE,↓reduceIte,simprocAttr,xk B30 [2,2,2,1,2,1,2,2,1,2,2] .sq rfl,rg B30 [1,2,2,2,1,2,1,2,2,1,2,2] 7 false rfl,hr_30_7,xk B30 [2,2,2,2,1,2,1,2,2,1,2,2] .rt rfl,R30_rr_l2.st,h1,h3,h5,h6]
 ·have hJ := f30_rr_l2_j2_ok k x0 x1 x5 false _ hF
  simp (maxSteps:=999999) (disch:=first|exact D (by decide)|exact K (by kernel_rfl)) only [E,EE,↓reduceIte,simprocAttr,xk B30 [3,2,2,1,2,1,2,2,1,2,2] .sk rfl,h1,h3,h5,h6]
  try simp only [NM,EE] at hJ
  exact hJ
noncomputable def f30_rr_l2_b (k:Nat) (x0 x1:List Int) (x5:Int) : Option R30_rr_l2 :=
 cond ((decide (x5 < ((List.length x0) : Int))))
  (f30_rr_l2_j1 k x0 x1 x5 true)
  (some (R30_rr_l2.o2 x0 x1 x5 false))
theorem f30_rr_l2_b_ok (k:Nat) (x0 x1:List Int) (x5:Int) (r:R30_rr_l2) (hF:f30_rr_l2_b k x0 x1 x5 = some r) : EX 30 k (nav B30 [1,2,2,1,2,2]) (⟨26,[(0,.sl 1 (rowsOf (encI .u8) x0)),(1,.sl 1 (rowsOf (encI .u8) x1)),(5,.p (.int .i64 x5))],[]⟩ : St) = some r.st := by
 unfold f30_rr_l2_b at hF
 simp (maxSteps:=999999) (disch:=first|exact D (by decide)|exact K (by kernel_rfl)) only [E,EE,↓reduceIte,simprocAttr,xk B30 [1,2,2,1,2,2] .sq rfl,xk B30 [1,1,2,2,1,2,2] .sq rfl,rg B30 [1,1,1,2,2,1,2,2] 4 false rfl,hr_30_4,t_29,xk B30 [2,1,1,2,2,1,2,2] (.cd 14) rfl]
 rcases cond_some hF with ⟨h1,hF⟩ | ⟨h1,hF⟩
 ·have hJ := f30_rr_l2_j1_ok k x0 x1 x5 true _ hF
  simp (maxSteps:=999999) (disch:=first|exact D (by decide)|exact K (by kernel_rfl)) only [E,EE,↓reduceIte,simprocAttr,xk B30 [2,2,1,1,2,2,1,2,2] .sk rfl,h1]
  try simp only [NM,EE] at hJ
  exact hJ
 ·cases hF
  simp (maxSteps:=999999) (disch:=first|exact D (by decide)|exact K (by kernel_rfl)) only [E,EE,↓reduceIte,simprocAttr,xk B30 [3,2,1,1,2,2,1,2,2] (.ex 0) rfl,R30_rr_l2.st,h1]
noncomputable def f30_rr_l2 (k:Nat) : Nat → (List Int) → (List Int) → Int → Option R30_rr_l2
 | 0,_,_,_ => none
 | n + 1,x0,x1,x5 => Option.bind (f30_rr_l2_b k x0 x1 x5) fun o =>
  match o with
  | .o0 y => some (.o0 y)
  | .o1 y y_1 y_2 => f30_rr_l2 k n y y_1 y_2
  | .o2 y y_1 y_2 y_3 => some (.o2 y y_1 y_2 y_3)
theorem f30_rr_l2_ok (k n:Nat) : ∀ (x0 x1:List Int) (x5:Int) (r:R30_rr_l2) (hF:f30_rr_l2 k n x0 x1 x5 = some r) (σ:St) (hσ:headR (hints.head 30 4) (hints.canon 30 4) σ = some (⟨26,[(0,.sl 1 (rowsOf (encI .u8) x0)),(1,.sl 1 (rowsOf (encI .u8) x1)),(5,.p (.int .i64 x5))],[]⟩ : St)),LP 30 k (nav B30 [1,2,2,1,2,2]) n σ = some r.st := by
 induction n with
 | zero => intro x0 x1 x5 r hF; cases hF
 | succ n ih =>
  intro x0 x1 x5 r hF σ hσ
  rw [f30_rr_l2] at hF
  obtain ⟨o,h,hF⟩ := Option.bind_eq_some_iff.1 hF
  have hB := f30_rr_l2_b_ok k x0 x1 x5 o h
  unfold LP at ih ⊢
  unfold EX at hB
  rw [loopK_succ,show firstReg (nav B30 [1,2,2,1,2,2]) = 4 from rfl,hσ,headK_some,hB]
  cases o with
  | o0 y => cases hF; rfl
  | o1 y y_1 y_2 =>
   refine ih y y_1 y_2 r hF _ ?_
   simp (maxSteps:=999999) (disch:=first|exact D (by decide)|exact K (by kernel_rfl)) only [E,EE,↓reduceIte,simprocAttr,hh_30_4,hc_30_4]
  | o2 y y_1 y_2 y_3 => cases hF; rfl
noncomputable def f30_rr_j3 (k:Nat) (x0 x1:List Int) (x5:Int) (x14:Bool) : Option R30_rr :=
 some (R30_rr.o0 true)
theorem f30_rr_j3_ok (k:Nat) (x0 x1:List Int) (x5:Int) (x14:Bool) (r:R30_rr) (hF:f30_rr_j3 k x0 x1 x5 x14 = some r) : finK Try.prog Try.f30 0 (EX 30 k (nav B30 [2,2,2]) (⟨26,[(0,.sl 1 (rowsOf (encI .u8) x0)),(1,.sl 1 (rowsOf (encI .u8) x1)),(5,.p (.int .i64 x5)),(14,.p (.bool x14))],[]⟩ : St)) = some r.st := by
 unfold f30_rr_j3 at hF
 cases hF
 simp (maxSteps:=999999) (disch:=first|exact D (by decide)|exact K (by kernel_rfl)) only [E,EE,↓reduceIte,simprocAttr,xk B30 [2,2,2] .sq rfl,rg B30 [1,2,2,2] 8 false rfl,hr_30_8,xk B30 [2,2,2,2] .rt rfl,finK_norm,finK_ret,fin30,R30_rr.st]
noncomputable def f30_rr_j1 (k:Nat) (x0 x1:List Int) (x10:Bool) : Option R30_rr :=
 Option.bind (f30_rr_l2 k k x0 x1 0) fun o1 =>
  match o1 with
  | .o0 v4 =>
   some (R30_rr.o0 v4)
  | .o1 _ _ _ =>
   none
  | .o2 v5 v6 v7 v8 =>
   f30_rr_j3 k v5 v6 v7 v8
theorem f30_rr_j1_ok (k:Nat) (x0 x1:List Int) (x10:Bool) (r:R30_rr) (hF:f30_rr_j1 k x0 x1 x10 = some r) : finK Try.prog Try.f30 0 (EX 30 k (nav B30 [2,2]) (⟨26,[(0,.sl 1 (rowsOf (encI .u8) x0)),(1,.sl 1 (rowsOf (encI .u8) x1)),(10,.p (.bool x10))],[]⟩ : St)) = some r.st := by
 unfold f30_rr_j1 at hF
 obtain ⟨o1,h2,hF⟩ := bs hF
 have hc3 := f30_rr_l2_ok k k x0 x1 0 _ h2
 simp (maxSteps:=999999) (disch:=first|exact D (by decide)|exact K (by kernel_rfl)) only [E,EE,↓reduceIte,simprocAttr,xk B30 [2,2] .sq rfl,xk B30 [1,2,2] .sq rfl,rg B30 [1,1,2,2] 3 false rfl,hr_30_3,xk B30 [2,1,2,2] (.bk 0) rfl,xk B30 [2,2,1,2,2] .lp rfl,hh_30_4,hc_30_4]
 (try simp only [NM,EE] at hc3)
 rw [hc3 _ (by simp (maxSteps:=999999) (disch:=first|exact D (by decide)|exact K (by kernel_rfl)) only [E,EE,↓reduceIte,simprocAttr,hh_30_4,hc_30_4])]
 clear hc3
 cases o1 with
 | o0 v4 =>
  (try dsimp only at hF)
  cases hF
  simp (maxSteps:=999999) (disch:=first|exact D (by decide)|exact K (by kernel_rfl)) only [E,EE,↓reduceIte,simprocAttr,R30_rr_l2.st,finK_norm,finK_ret,fin30,R30_rr.st]
 | o1 _ _ _ =>
  (try dsimp only at hF)
  cases hF
 | o2 v5 v6 v7 v8 =>
  (try dsimp only at hF)
  have hJ := f30_rr_j3_ok k v5 v6 v7 v8 _ hF
  simp (maxSteps:=999999) (disch:=first|exact D (by decide)|exact K (by kernel_rfl)) only [E,EE,↓reduceIte,simprocAttr,R30_rr_l2.st]
  try simp only [NM,EE] at hJ
  exact hJ
noncomputable def f30_rr_e (k:Nat) (a0 a1:List Int) : Option R30_rr :=
 cond ((((List.length a0) : Int) != ((List.length a1) : Int)))
  (some (R30_rr.o0 false))
  (f30_rr_j1 k a0 a1 false)
theorem f30_rr_e_ok (k:Nat) (a0 a1:List Int) (r:R30_rr) (hF:f30_rr_e k a0 a1 = some r) : finK Try.prog Try.f30 0 (EX 30 k (nav B30 []) (⟨26,[(0,.sl 1 (rowsOf (encI .u8) a0)),(1,.sl 1 (rowsOf (encI .u8) a1))],[]⟩ : St)) = some r.st := by
 unfold f30_rr_e at hF
 simp (maxSteps:=999999) (disch:=first|exact D (by decide)|exact K (by kernel_rfl)) only [E,EE,↓reduceIte,simprocAttr,xk B30 [] .sq rfl,rg B30 [1] 0 false rfl,hr_30_0,xk B30 [2] .sq rfl,xk B30 [1,2] .sq rfl,rg B30 [1,1,2] 1 false rfl,hr_30_1,t_29,xk B30 [2,1,2] (.cd 10) rfl]
 rcases cond_some hF with ⟨h1,hF⟩ | ⟨h1,hF⟩
 ·cases hF
  simp (maxSteps:=999999) (disch:=first|exact D (by decide)|exact K (by kernel_rfl)) only [E,EE,↓reduceIte,simprocAttr,xk B30 [2,2,1,2] .sq rfl,rg B30 [1,2,2,1,2] 2 false rfl,hr_30_2,xk B30 [2,2,2,1,2] .rt rfl,finK_norm,finK_ret,fin30,R30_rr.st,h1]
 ·have hJ := f30_rr_j1_ok k a0 a1 false _ hF
  simp (maxSteps:=999999) (disch:=first|exact D (by decide)|exact K (by kernel_rfl)) only [E,EE,↓reduceIte,simprocAttr,xk B30 [3,2,1,2] .sk rfl,h1]
  try simp only [NM,EE] at hJ
  exact hJ
noncomputable def f30_rr (k:Nat) (a0 a1:List Int) : Option R30_rr := match k with | 0 => none | k + 1 => f30_rr_e k a0 a1
theorem f30_rr_ok (k:Nat) (a0 a1:List Int) (r:R30_rr) (hF:f30_rr k a0 a1 = some r) : CV k 30 [.sl 1 (rowsOf (encI .u8) a0),.sl 1 (rowsOf (encI .u8) a1)] [] = some r.st := by
 cases k with
 | zero => cases hF
 | succ k =>
  unfold CV
  rw [ev_call (F := Try.f30) (c := (nav B30 [])) rfl Try.func30 rfl rfl rfl rfl]
  exact f30_rr_e_ok k a0 a1 r hF
-- f14_ai10rzai10rz: f14 heliograph/heliographref09.Same
inductive R14_ai10rzai10rz where
 | o0 (y:Bool)
noncomputable def R14_ai10rzai10rz.st : R14_ai10rzai10rz → V × List O × List O
 | .o0 y => (.p (.bool y),[],[])
noncomputable def f14_ai10rzai10rz_e (k:Nat) (a0 a0_1 a0_2 a0_3 a0_4 a0_5 a0_6 a0_7 a0_8 a0_9:Int) (a0_10:List Int) (a1 a1_1 a1_2 a1_3 a1_4 a1_5 a1_6 a1_7 a1_8 a1_9:Int) (a1_10:List Int) : Option R14_ai10rzai10rz :=
 cond ((a0 == a1))
  (
   cond ((a0_1 == a1_1))
    (
     cond ((a0_2 == a1_2))
      (
       cond ((a0_3 == a1_3))
        (
         cond ((a0_4 == a1_4))
          (
           cond ((a0_5 == a1_5))
            (
             cond ((a0_6 == a1_6))
              (
               cond ((a0_7 == a1_7))
                (
                 cond ((a0_8 == a1_8))
                  (
                   cond ((a0_9 == a1_9))
                    (
                     Option.bind (f30_rr k a0_10 a1_10) fun o11 =>
                      match o11 with
                      | .o0 v14 =>
                       some (R14_ai10rzai10rz.o0 v14))
                    (some (R14_ai10rzai10rz.o0 false)))
                  (some (R14_ai10rzai10rz.o0 false)))
                (some (R14_ai10rzai10rz.o0 false)))
              (some (R14_ai10rzai10rz.o0 false)))
            (some (R14_ai10rzai10rz.o0 false)))
          (some (R14_ai10rzai10rz.o0 false)))
        (some (R14_ai10rzai10rz.o0 false)))
      (some (R14_ai10rzai10rz.o0 false)))
    (some (R14_ai10rzai10rz.o0 false)))
  (some (R14_ai10rzai10rz.o0 false))
theorem f14_ai10rzai10rz_e_ok (k:Nat) (a0 a0_1 a0_2 a0_3 a0_4 a0_5 a0_6 a0_7 a0_8 a0_9:Int) (a0_10:List Int) (a1 a1_1 a1_2 a1_3 a1_4 a1_5 a1_6 a1_7 a1_8 a1_9:Int) (a1_10:List Int) (r:R14_ai10rzai10rz) (hF:f14_ai10rzai10rz_e k a0 a0_1 a0_2 a0_3 a0_4 a0_5 a0_6 a0_7 a0_8 a0_9 a0_10 a1 a1_1 a1_2 a1_3 a1_4 a1_5 a1_6 a1_7 a1_8 a1_9 a1_10 = some r) : finK Try.prog Try.f14 0 (EX 14 k (nav B14 []) (⟨80,[(0,.agg [.p (.int .i64 a0),.p (.int .i64 a0_1),.p (.int .u32 a0_2),.p (.int .i64 a0_3),.p (.int .i64 a0_4),.p (.int .i64 a0_5),.p (.int .i64 a0_6),.p (.int .i64 a0_7),.p (.int .i64 a0_8),.p (.int .i64 a0_9),.sl 1 (rowsOf (encI .u8) a0_10)]),(1,.agg [.p (.int .i64 a1),.p (.int .i64 a1_1),.p (.int .u32 a1_2),.p (.int .i64 a1_3),.p (.int .i64 a1_4),.p (.int .i64 a1_5),.p (.int .i64 a1_6),.p (.int .i64 a1_7),.p (.int .i64 a1_8),.p (.int .i64 a1_9),.sl 1 (rowsOf (encI .u8) a1_10)])],[]⟩ : St)) = some r.st := by
 unfold f14_ai10rzai10rz_e at hF
 simp (maxSteps:=999999) (disch:=first|exact D (by decide)|exact K (by kernel_rfl)) only [E,EE,↓reduceIte,simprocAttr,xk B14 [] .sq rfl,rg B14 [1] 0 false rfl,hr_14_0,xk B14 [2] .sq rfl,rg B14 [1,2] 1 false rfl,hr_14_1,fieldAddrV,t_39,t_3]
 rcases cond_some hF with ⟨h1,hF⟩ | ⟨h1,hF⟩
 ·simp (maxSteps:=999999) (disch:=first|exact D (by decide)|exact K (by kernel_rfl)) only [E,EE,↓reduceIte,simprocAttr,fieldAddrV,t_39,t_3,h1]
  rcases cond_some hF with ⟨h2,hF⟩ | ⟨h2,hF⟩
  ·simp (maxSteps:=999999) (disch:=first|exact D (by decide)|exact K (by kernel_rfl)) only [E,EE,↓reduceIte,simprocAttr,fieldAddrV,t_39,t_22,h1,h2]
   rcases cond_some hF with ⟨h3,hF⟩ | ⟨h3,hF⟩
   ·simp (maxSteps:=999999) (disch:=first|exact D (by decide)|exact K (by kernel_rfl)) only [E,EE,↓reduceIte,simprocAttr,fieldAddrV,t_39,t_3,h1,h2,h3]
    rcases cond_some hF with ⟨h4,hF⟩ | ⟨h4,hF⟩
    ·simp (maxSteps:=999999) (disch:=first|exact D (by decide)|exact K (by kernel_rfl)) only [E,EE,↓reduceIte,simprocAttr,fieldAddrV,t_39,t_3,h1,h2,h3,h4]
     rcases cond_some hF with ⟨h5,hF⟩ | ⟨h5,hF⟩
     ·simp (maxSteps:=999999) (disch:=first|exact D (by decide)|exact K (by kernel_rfl)) only [E,EE,↓reduceIte,simprocAttr,fieldAddrV,t_39,t_3,h1,h2,h3,h4,h5]
      rcases cond_some hF with ⟨h6,hF⟩ | ⟨h6,hF⟩
      ·simp (maxSteps:=999999) (disch:=first|exact D (by decide)|exact K (by kernel_rfl)) only [E,EE,↓reduceIte,simprocAttr,fieldAddrV,t_39,t_3,h1,h2,h3,h4,h5,h6]
       rcases cond_some hF with ⟨h7,hF⟩ | ⟨h7,hF⟩
       ·simp (maxSteps:=999999) (disch:=first|exact D (by decide)|exact K (by kernel_rfl)) only [E,EE,↓reduceIte,simprocAttr,fieldAddrV,t_39,t_3,h1,h2,h3,h4,h5,h6,h7]
        rcases cond_some hF with ⟨h8,hF⟩ | ⟨h8,hF⟩
        ·simp (maxSteps:=999999) (disch:=first|exact D (by decide)|exact K (by kernel_rfl)) only [E,EE,↓reduceIte,simprocAttr,fieldAddrV,t_39,t_3,h1,h2,h3,h4,h5,h6,h7,h8]
         rcases cond_some hF with ⟨h9,hF⟩ | ⟨h9,hF⟩
         ·simp (maxSteps:=999999) (disch:=first|exact D (by decide)|exact K (by kernel_rfl)) only [E,EE,↓reduceIte,simprocAttr,fieldAddrV,t_39,t_3,h1,h2,h3,h4,h5,h6,h7,h8,h9]
          rcases cond_some hF with ⟨h10,hF⟩ | ⟨h10,hF⟩
          ·obtain ⟨o11,h12,hF⟩ := bs hF
           have hc13 := f30_rr_ok k a0_10 a1_10 _ h12
           cases o11 with
           | o0 v14 =>
            (try dsimp only at hF)
            (try simp only [NM,EE,R30_rr.st] at hc13)
            cases hF
            simp (maxSteps:=999999) (disch:=first|exact D (by decide)|exact K (by kernel_rfl)) only [E,EE,↓reduceIte,simprocAttr,fieldAddrV,t_39,t_29,callStep,CL,gv,List.contains,xk B14 [2,2] .rt rfl,finK_norm,finK_ret,fin14,R14_ai10rzai10rz.st,h1,h2,h3,h4,h5,h6,h7,h8,h9,h10,hc13]
          ·cases hF
           simp (maxSteps:=999999) (disch:=first|exact D (by decide)|exact K (by kernel_rfl)) only [E,EE,↓reduceIte,simprocAttr,xk B14 [2,2] .rt rfl,finK_norm,finK_ret,fin14,R14_ai10rzai10rz.st,h1,h2,h3,h4,h5,h6,h7,h8,h9,h10]
         ·cases hF
          simp (maxSteps:=999999) (disch:=first|exact D (by decide)|exact K (by kernel_rfl)) only [E,EE,↓reduceIte,simprocAttr,xk B14 [2,2] .rt rfl,finK_norm,finK_ret,fin14,R14_ai10rzai10rz.st,h1,h2,h3,h4,h5,h6,h7,h8,h9]
        ·cases hF
         simp (maxSteps:=999999) (disch:=first|exact D (by decide)|exact K (by kernel_rfl)) only [E,EE,↓reduceIte,simprocAttr,xk B14 [2,2] .rt rfl,finK_norm,finK_ret,fin14,R14_ai10rzai10rz.st,h1,h2,h3,h4,h5,h6,h7,h8]
       ·cases hF
        simp (maxSteps:=999999) (disch:=first|exact D (by decide)|exact K (by kernel_rfl)) only [E,EE,↓reduceIte,simprocAttr,xk B14 [2,2] .rt rfl,finK_norm,finK_ret,fin14,R14_ai10rzai10rz.st,h1,h2,h3,h4,h5,h6,h7]
      ·cases hF
       simp (maxSteps:=999999) (disch:=first|exact D (by decide)|exact K (by kernel_rfl)) only [E,EE,↓reduceIte,simprocAttr,xk B14 [2,2] .rt rfl,finK_norm,finK_ret,fin14,R14_ai10rzai10rz.st,h1,h2,h3,h4,h5,h6]
     ·cases hF
      simp (maxSteps:=999999) (disch:=first|exact D (by decide)|exact K (by kernel_rfl)) only [E,EE,↓reduceIte,simprocAttr,xk B14 [2,2] .rt rfl,finK_norm,finK_ret,fin14,R14_ai10rzai10rz.st,h1,h2,h3,h4,h5]
    ·cases hF
     simp (maxSteps:=999999) (disch:=first|exact D (by decide)|exact K (by kernel_rfl)) only [E,EE,↓reduceIte,simprocAttr,xk B14 [2,2] .rt rfl,finK_norm,finK_ret,fin14,R14_ai10rzai10rz.st,h1,h2,h3,h4]
   ·cases hF
    simp (maxSteps:=999999) (disch:=first|exact D (by decide)|exact K (by kernel_rfl)) only [E,EE,↓reduceIte,simprocAttr,xk B14 [2,2] .rt rfl,finK_norm,finK_ret,fin14,R14_ai10rzai10rz.st,h1,h2,h3]
  ·cases hF
   simp (maxSteps:=999999) (disch:=first|exact D (by decide)|exact K (by kernel_rfl)) only [E,EE,↓reduceIte,simprocAttr,xk B14 [2,2] .rt rfl,finK_norm,finK_ret,fin14,R14_ai10rzai10rz.st,h1,h2]
 ·cases hF
  simp (maxSteps:=999999) (disch:=first|exact D (by decide)|exact K (by kernel_rfl)) only [E,EE,↓reduceIte,simprocAttr,xk B14 [2,2] .rt rfl,finK_norm,finK_ret,fin14,R14_ai10rzai10rz.st,h1]
noncomputable def f14_ai10rzai10rz (k:Nat) (a0 a0_1 a0_2 a0_3 a0_4 a0_5 a0_6 a0_7 a0_8 a0_9:Int) (a0_10:List Int) (a1 a1_1 a1_2 a1_3 a1_4 a1_5 a1_6 a1_7 a1_8 a1_9:Int) (a1_10:List Int) : Option R14_ai10rzai10rz := match k with | 0 => none | k + 1 => f14_ai10rzai10rz_e k a0 a0_1 a0_2 a0_3 a0_4 a0_5 a0_6 a0_7 a0_8 a0_9 a0_10 a1 a1_1 a1_2 a1_3 a1_4 a1_5 a1_6 a1_7 a1_8 a1_9 a1_10
theorem f14_ai10rzai10rz_ok (k:Nat) (a0 a0_1 a0_2 a0_3 a0_4 a0_5 a0_6 a0_7 a0_8 a0_9:Int) (a0_10:List Int) (a1 a1_1 a1_2 a1_3 a1_4 a1_5 a1_6 a1_7 a1_8 a1_9:Int) (a1_10:List Int) (r:R14_ai10rzai10rz) (hF:f14_ai10rzai10rz k a0 a0_1 a0_2 a0_3 a0_4 a0_5 a0_6 a0_7 a0_8 a0_9 a0_10 a1 a1_1 a1_2 a1_3 a1_4 a1_5 a1_6 a1_7 a1_8 a1_9 a1_10 = some r) : CV k 14 [.agg [.p (.int .i64 a0),.p (.int .i64 a0_1),.p (.int .u32 a0_2),.p (.int .i64 a0_3),.p (.int .i64 a0_4),.p (.int .i64 a0_5),.p (.int .i64 a0_6),.p (.int .i64 a0_7),.p (.int .i64 a0_8),.p (.int .i64 a0_9),.sl 1 (rowsOf (encI .u8) a0_10)],.agg [.p (.int .i64 a1),.p (.int .i64 a1_1),.p (.int .u32 a1_2),.p (.int .i64 a1_3),.p (.int .i64 a1_4),.p (.int .i64 a1_5),.p (.int .i64 a1_6),.p (.int .i64 a1_7),.p (.int .i64 a1_8),.p (.int .i64 a1_9),.sl 1 (rowsOf (encI .u8) a1_10)]] [] = some r.st := by
 cases k with
 | zero => cases hF
 | succ k =>
  unfold CV
  rw [ev_call (F := Try.f14) (c := (nav B14 [])) rfl Try.func14 rfl rfl rfl rfl]
  exact f14_ai10rzai10rz_e_ok k a0 a0_1 a0_2 a0_3 a0_4 a0_5 a0_6 a0_7 a0_8 a0_9 a0_10 a1 a1_1 a1_2 a1_3 a1_4 a1_5 a1_6 a1_7 a1_8 a1_9 a1_10 r hF
-- f31_rr: f31 heliograph/heliographref17.Same
inductive R31_rr where
 | o0 (y:Bool)
noncomputable def R31_rr.st : R31_rr → V × List O × List O
 | .o0 y => (.p (.bool y),[],[])
inductive R31_rr_l2 where
 | o0 (y:Bool)
 | o1 (y y_1:List T39) (y_2:Int)
 | o2 (y y_1:List T39) (y_2:Int) (y_3:Bool)
noncomputable def R31_rr_l2.st : R31_rr_l2 → Out × St
 | .o0 y => (.ret,(⟨27,[(4,.p (.bool y))],[]⟩ : St))
 | .o1 y y_1 y_2 => (.norm,(⟨27,[(0,.sl 11 (rowsOf encT39 y)),(1,.sl 11 (rowsOf encT39 y_1)),(5,.p (.int .i64 y_2))],[]⟩ : St))
 | .o2 y y_1 y_2 y_3 => (.exit 0,(⟨27,[(0,.sl 11 (rowsOf encT39 y)),(1,.sl 11 (rowsOf encT39 y_1)),(5,.p (.int .i64 y_2)),(14,.p (.bool y_3))],[]⟩ : St))
noncomputable def f31_rr_l2_j2 (k:Nat) (x0 x1:List T39) (x5:Int) (x26:Bool) : Option R31_rr_l2 :=
 some (R31_rr_l2.o1 x0 x1 (IntKind.i64.wrap (x5 + (1:Int))))
theorem f31_rr_l2_j2_ok (k:Nat) (x0 x1:List T39) (x5:Int) (x26:Bool) (r:R31_rr_l2) (hF:f31_rr_l2_j2 k x0 x1 x5 x26 = some r) : EX 31 k (nav B31 [2,2,1,2,2,1,2,2]) (⟨27,[(0,.sl 11 (rowsOf encT39 x0)),(1,.sl 11 (rowsOf encT39 x1)),(5,.p (.int .i64 x5)),(26,.p (.bool x26))],[]⟩ : St) = some r.st := by
 unfold f31_rr_l2_j2 at hF
 cases hF
 simp (maxSteps:=999999) (disch:=first|exact D (by decide)|exact K (by kernel_rfl)) only [E,EE,↓reduceIte,simprocAttr,rg B31 [2,2,1,2,2,1,2,2] 5 false rfl,hr_31_5,R31_rr_l2.st]
noncomputable def f31_rr_l2_j1 (k:Nat) (x0 x1:List T39) (x5:Int) (x14:Bool) : Option R31_rr_l2 :=
 ifE ((0:Int) ≤ x5) (
  Option.bind (x0[(Int.toNat x5)]?) fun v2 =>
   Option.bind (x1[(Int.toNat x5)]?) fun v4 =>
    Option.bind (f14_ai10rzai10rz k v2.Source v2.Dest v2.Seq v2.Created v2.Lifetime v2.HopLimit v2.Hops v2.Priority v2.Offset v2.Total v2.Payload v4.Source v4.Dest v4.Seq v4.Created v4.Lifetime v4.HopLimit v4.Hops v4.Priority v4.Offset v4.Total v4.Payload) fun o6 =>
     match o6 with
     | .o0 v9 =>
      cond ((!v9))
       (some (R31_rr_l2.o0 false))
       (f31_rr_l2_j2 k x0 x1 x5 false))
theorem f31_rr_l2_j1_ok (k:Nat) (x0 x1:List T39) (x5:Int) (x14:Bool) (r:R31_rr_l2) (hF:f31_rr_l2_j1 k x0 x1 x5 x14 = some r) : EX 31 k (nav B31 [2,1,2,2,1,2,2]) (⟨27,[(0,.sl 11 (rowsOf encT39 x0)),(1,.sl 11 (rowsOf encT39 x1)),(5,.p (.int .i64 x5)),(14,.p (.bool x14))],[]⟩ : St) = some r.st := by
 unfold f31_rr_l2_j1 at hF
 obtain ⟨h1,hF⟩ := ifE_some.1 hF
 obtain ⟨v2,h3,hF⟩ := bs hF
 obtain ⟨v4,h5,hF⟩ := bs hF
 obtain ⟨o6,h7,hF⟩ := bs hF
 have hc8 := f14_ai10rzai10rz_ok k v2.Source v2.Dest v2.Seq v2.Created v2.Lifetime v2.HopLimit v2.Hops v2.Priority v2.Offset v2.Total v2.Payload v4.Source v4.Dest v4.Seq v4.Created v4.Lifetime v4.HopLimit v4.Hops v4.Priority v4.Offset v4.Total v4.Payload _ h7
 cases o6 with
 | o0 v9 =>
  (try dsimp only at hF)
  (try simp only [NM,EE,R14_ai10rzai10rz.st] at hc8)
  simp (maxSteps:=999999) (disch:=first|exact D (by decide)|exact K (by kernel_rfl)) only [E,EE,↓reduceIte,simprocAttr,xk B31 [2,1,2,2,1,2,2] .sq rfl,xk B31 [1,2,1,2,2,1,2,2] (.bk 1) rfl,xk B31 [2,1,2,1,2,2,1,2,2] .sq rfl,rg B31 [1,2,1,2,1,2,2,1,2,2] 6 true rfl,hr_31_6,indexAddrV,t_24,t_39,encT39_eq,callStep,CL,gv,List.contains,xk B31 [2,2,1,2,1,2,2,1,2,2] (.cd 26) rfl,h1,h3,h5,hc8]
  rcases cond_some hF with ⟨h10,hF⟩ | ⟨h10,hF⟩
  ·cases hF
   simp (maxSteps:=999999) (disch:=first|exact D (by decide)|exact K (by kernel_rfl)) only [E,EE,↓reduceIte,simprocAttr,xk B31 [2,2,2,1,2,1,2,2,1,2,2] .sq rfl,rg B31 [1,2,2,2,1,2,1,2,2,1,2,2] 7 false rfl,hr_31_7,xk B31 [2,2,2,2,1,2,1,2,2,1,2,2] .rt rfl,R31_rr_l2.st,h1,h3,h5,hc8,h10]
  ·have hJ := f31_rr_l2_j2_ok k x0 x1 x5 false _ hF
   simp (maxSteps:=999999) (disch:=first|exact D (by decide)|exact K (by kernel_rfl)) only [E,EE,↓reduceIte,simprocAttr,xk B31 [3,2,2,1,2,1,2,2,1,2,2] .sk rfl,h1,h3,h5,hc8,h10]
   try simp only [NM,EE] at hJ
   exact hJ
noncomputable def f31_rr_l2_b (k:Nat) (x0 x1:List T39) (x5:Int) : Option R31_rr_l2 :=
 cond ((decide (x5 < ((List.length x0) : Int))))
  (f31_rr_l2_j1 k x0 x1 x5 true)
  (some (R31_rr_l2.o2 x0 x1 x5 false))
theorem f31_rr_l2_b_ok (k:Nat) (x0 x1:List T39) (x5:Int) (r:R31_rr_l2) (hF:f31_rr_l2_b k x0 x1 x5 = some r) : EX 31 k (nav B31 [1,2,2,1,2,2]) (⟨27,[(0,.sl 11 (rowsOf encT39 x0)),(1,.sl 11 (rowsOf encT39 x1)),(5,.p (.int .i64 x5))],[]⟩ : St) = some r.st := by
 unfold f31_rr_l2_b at hF
 simp (maxSteps:=999999) (disch:=first|exact D (by decide)|exact K (by kernel_rfl)) only [E,EE,↓reduceIte,simprocAttr,xk B31 [1,2,2,1,2,2] .sq rfl,xk B31 [1,1,2,2,1,2,2] .sq rfl,rg B31 [1,1,1,2,2,1,2,2] 4 false rfl,hr_31_4,t_24,xk B31 [2,1,1,2,2,1,2,2] (.cd 14) rfl]
 rcases cond_some hF with ⟨h1,hF⟩ | ⟨h1,hF⟩
 ·have hJ := f31_rr_l2_j1_ok k x0 x1 x5 true _ hF
  simp (maxSteps:=999999) (disch:=first|exact D (by decide)|exact K (by kernel_rfl)) only [E,EE,↓reduceIte,simprocAttr,xk B31 [2,2,1,1,2,2,1,2,2] .sk rfl,h1]
  try simp only [NM,EE] at hJ
  exact hJ
 ·cases hF
  simp (maxSteps:=999999) (disch:=first|exact D (by decide)|exact K (by kernel_rfl)) only [E,EE,↓reduceIte,simprocAttr,xk B31 [3,2,1,1,2,2,1,2,2] (.ex 0) rfl,R31_rr_l2.st,h1]
noncomputable def f31_rr_l2 (k:Nat) : Nat → (List T39) → (List T39) → Int → Option R31_rr_l2
 | 0,_,_,_ => none
 | n + 1,x0,x1,x5 => Option.bind (f31_rr_l2_b k x0 x1 x5) fun o =>
  match o with
  | .o0 y => some (.o0 y)
  | .o1 y y_1 y_2 => f31_rr_l2 k n y y_1 y_2
  | .o2 y y_1 y_2 y_3 => some (.o2 y y_1 y_2 y_3)
theorem f31_rr_l2_ok (k n:Nat) : ∀ (x0 x1:List T39) (x5:Int) (r:R31_rr_l2) (hF:f31_rr_l2 k n x0 x1 x5 = some r) (σ:St) (hσ:headR (hints.head 31 4) (hints.canon 31 4) σ = some (⟨27,[(0,.sl 11 (rowsOf encT39 x0)),(1,.sl 11 (rowsOf encT39 x1)),(5,.p (.int .i64 x5))],[]⟩ : St)),LP 31 k (nav B31 [1,2,2,1,2,2]) n σ = some r.st := by
 induction n with
 | zero => intro x0 x1 x5 r hF; cases hF
 | succ n ih =>
  intro x0 x1 x5 r hF σ hσ
  rw [f31_rr_l2] at hF
  obtain ⟨o,h,hF⟩ := Option.bind_eq_some_iff.1 hF
  have hB := f31_rr_l2_b_ok k x0 x1 x5 o h
  unfold LP at ih ⊢
  unfold EX at hB
  rw [loopK_succ,show firstReg (nav B31 [1,2,2,1,2,2]) = 4 from rfl,hσ,headK_some,hB]
  cases o with
  | o0 y => cases hF; rfl
  | o1 y y_1 y_2 =>
   refine ih y y_1 y_2 r hF _ ?_
   simp (maxSteps:=999999) (disch:=first|exact D (by decide)|exact K (by kernel_rfl)) only [E,EE,↓reduceIte,simprocAttr,hh_31_4,hc_31_4]
  | o2 y y_1 y_2 y_3 => cases hF; rfl
noncomputable def f31_rr_j3 (k:Nat) (x0 x1:List T39) (x5:Int) (x14:Bool) : Option R31_rr :=
 some (R31_rr.o0 true)
theorem f31_rr_j3_ok (k:Nat) (x0 x1:List T39) (x5:Int) (x14:Bool) (r:R31_rr) (hF:f31_rr_j3 k x0 x1 x5 x14 = some r) : finK Try.prog Try.f31 0 (EX 31 k (nav B31 [2,2,2]) (⟨27,[(0,.sl 11 (rowsOf encT39 x0)),(1,.sl 11 (rowsOf encT39 x1)),(5,.p (.int .i64 x5)),(14,.p (.bool x14))],[]⟩ : St)) = some r.st := by
 unfold f31_rr_j3 at hF
 cases hF
 simp (maxSteps:=999999) (disch:=first|exact D (by decide)|exact K (by kernel_rfl)) only [E,EE,↓reduceIte,simprocAttr,xk B31 [2,2,2] .sq rfl,rg B31 [1,2,2,2] 8 false rfl,hr_31_8,xk B31 [2,2,2,2] .rt rfl,finK_norm,finK_ret,fin31,R31_rr.st]
noncomputable def f31_rr_j1 (k:Nat) (x0 x1:List T39) (x10:Bool) : Option R31_rr :=
 Option.bind (f31_rr_l2 k k x0 x1 0) fun o1 =>
  match o1 with
  | .o0 v4 =>
   some (R31_rr.o0 v4)
  | .o1 _ _ _ =>
   none
  | .o2 v5 v6 v7 v8 =>
   f31_rr_j3 k v5 v6 v7 v8
theorem f31_rr_j1_ok (k:Nat) (x0 x1:List T39) (x10:Bool) (r:R31_rr) (hF:f31_rr_j1 k x0 x1 x10 = some r) : finK Try.prog Try.f31 0 (EX 31 k (nav B31 [2,2]) (⟨27,[(0,.sl 11 (rowsOf encT39 x0)),(1,.sl 11 (rowsOf encT39 x1)),(10,.p (.bool x10))],[]⟩ : St)) = some r.st := by
 unfold f31_rr_j1 at hF
 obtain ⟨o1,h2,hF⟩ := bs hF
 have hc3 := f31_rr_l2_ok k k x0 x1 0 _ h2
 simp (maxSteps:=999999) (disch:=first|exact D (by decide)|exact K (by kernel_rfl)) only [E,EE,↓reduceIte,simprocAttr,xk B31 [2,2] .sq rfl,xk B31 [1,2,2] .sq rfl,rg B31 [1,1,2,2] 3 false rfl,hr_31_3,xk B31 [2,1,2,2] (.bk 0) rfl,xk B31 [2,2,1,2,2] .lp rfl,hh_31_4,hc_31_4]
 (try simp only [NM,EE] at hc3)
 rw [hc3 _ (by simp (maxSteps:=999999) (disch:=first|exact D (by decide)|exact K (by kernel_rfl)) only [E,EE,↓reduceIte,simprocAttr,hh_31_4,hc_31_4])]
 clear hc3
 cases o1 with
 | o0 v4 =>
  (try dsimp only at hF)
  cases hF
  simp (maxSteps:=999999) (disch:=first|exact D (by decide)|exact K (by kernel_rfl)) only [E,EE,↓reduceIte,simprocAttr,R31_rr_l2.st,finK_norm,finK_ret,fin31,R31_rr.st]
 | o1 _ _ _ =>
  (try dsimp only at hF)
  cases hF
 | o2 v5 v6 v7 v8 =>
  (try dsimp only at hF)
  have hJ := f31_rr_j3_ok k v5 v6 v7 v8 _ hF
  simp (maxSteps:=999999) (disch:=first|exact D (by decide)|exact K (by kernel_rfl)) only [E,EE,↓reduceIte,simprocAttr,R31_rr_l2.st]
  try simp only [NM,EE] at hJ
  exact hJ
noncomputable def f31_rr_e (k:Nat) (a0 a1:List T39) : Option R31_rr :=
 cond ((((List.length a0) : Int) != ((List.length a1) : Int)))
  (some (R31_rr.o0 false))
  (f31_rr_j1 k a0 a1 false)
theorem f31_rr_e_ok (k:Nat) (a0 a1:List T39) (r:R31_rr) (hF:f31_rr_e k a0 a1 = some r) : finK Try.prog Try.f31 0 (EX 31 k (nav B31 []) (⟨27,[(0,.sl 11 (rowsOf encT39 a0)),(1,.sl 11 (rowsOf encT39 a1))],[]⟩ : St)) = some r.st := by
 unfold f31_rr_e at hF
 simp (maxSteps:=999999) (disch:=first|exact D (by decide)|exact K (by kernel_rfl)) only [E,EE,↓reduceIte,simprocAttr,xk B31 [] .sq rfl,rg B31 [1] 0 false rfl,hr_31_0,xk B31 [2] .sq rfl,xk B31 [1,2] .sq rfl,rg B31 [1,1,2] 1 false rfl,hr_31_1,t_24,xk B31 [2,1,2] (.cd 10) rfl]
 rcases cond_some hF with ⟨h1,hF⟩ | ⟨h1,hF⟩
 ·cases hF
  simp (maxSteps:=999999) (disch:=first|exact D (by decide)|exact K (by kernel_rfl)) only [E,EE,↓reduceIte,simprocAttr,xk B31 [2,2,1,2] .sq rfl,rg B31 [1,2,2,1,2] 2 false rfl,hr_31_2,xk B31 [2,2,2,1,2] .rt rfl,finK_norm,finK_ret,fin31,R31_rr.st,h1]
 ·have hJ := f31_rr_j1_ok k a0 a1 false _ hF
  simp (maxSteps:=999999) (disch:=first|exact D (by decide)|exact K (by kernel_rfl)) only [E,EE,↓reduceIte,simprocAttr,xk B31 [3,2,1,2] .sk rfl,h1]
  try simp only [NM,EE] at hJ
  exact hJ
noncomputable def f31_rr (k:Nat) (a0 a1:List T39) : Option R31_rr := match k with | 0 => none | k + 1 => f31_rr_e k a0 a1
theorem f31_rr_ok (k:Nat) (a0 a1:List T39) (r:R31_rr) (hF:f31_rr k a0 a1 = some r) : CV k 31 [.sl 11 (rowsOf encT39 a0),.sl 11 (rowsOf encT39 a1)] [] = some r.st := by
 cases k with
 | zero => cases hF
 | succ k =>
  unfold CV
  rw [ev_call (F := Try.f31) (c := (nav B31 [])) rfl Try.func31 rfl rfl rfl rfl]
  exact f31_rr_e_ok k a0 a1 r hF
end Go.Proofs.YticggdfaehneeaaV