/- What the program's functions answer: plain functions,and that the interpreter answers what they do. Written by a program of this session,out of the translation. -/
import Derived.Test.YticggdfaehneeaaVP8
namespace Go.Proofs.YticggdfaehneeaaV
open Go
set_option linter.unusedVariables false
set_option linter.unusedSimpArgs false
set_option maxRecDepth 8000
set_option maxHeartbeats 4000000
-- f43_ai10rzp_bi: f43 heliograph/agent.Expire$1
inductive R43_ai10rzp_bi where
 | o0 (y:Bool) (y_1:Int)
noncomputable def R43_ai10rzp_bi.st : R43_ai10rzp_bi → V × List O × List O
 | .o0 y y_1 => (.p (.bool y),[.box 3 [.p (.int .i64 y_1)]],[])
noncomputable def f43_ai10rzp_bi_e (k:Nat) (a0 a0_1 a0_2 a0_3 a0_4 a0_5 a0_6 a0_7 a0_8 a0_9:Int) (a0_10:List Int) (e0:Int) : Option R43_ai10rzp_bi :=
 Option.bind (f44_ai10rzi k a0 a0_1 a0_2 a0_3 a0_4 a0_5 a0_6 a0_7 a0_8 a0_9 a0_10 e0) fun o1 =>
  match o1 with
  | .o0 v4 =>
   some (R43_ai10rzp_bi.o0 v4 e0)
theorem f43_ai10rzp_bi_e_ok (k:Nat) (a0 a0_1 a0_2 a0_3 a0_4 a0_5 a0_6 a0_7 a0_8 a0_9:Int) (a0_10:List Int) (e0:Int) (r:R43_ai10rzp_bi) (hF:f43_ai10rzp_bi_e k a0 a0_1 a0_2 a0_3 a0_4 a0_5 a0_6 a0_7 a0_8 a0_9 a0_10 e0 = some r) : finK Try.prog Try.f43 1 (EX 43 k (nav B43 []) (⟨7,[(0,.agg [.p (.int .i64 a0),.p (.int .i64 a0_1),.p (.int .u32 a0_2),.p (.int .i64 a0_3),.p (.int .i64 a0_4),.p (.int .i64 a0_5),.p (.int .i64 a0_6),.p (.int .i64 a0_7),.p (.int .i64 a0_8),.p (.int .i64 a0_9),.sl 1 (rowsOf (encI .u8) a0_10)]),(1,.ptr 1000000 0)],[(1000000,.box 3 [.p (.int .i64 e0)])]⟩ : St)) = some r.st := by
 unfold f43_ai10rzp_bi_e at hF
 obtain ⟨o1,h2,hF⟩ := bs hF
 have hc3 := f44_ai10rzi_ok k a0 a0_1 a0_2 a0_3 a0_4 a0_5 a0_6 a0_7 a0_8 a0_9 a0_10 e0 _ h2
 cases o1 with
 | o0 v4 =>
  (try dsimp only at hF)
  (try simp only [NM,EE,R44_ai10rzi.st] at hc3)
  cases hF
  simp (maxSteps:=999999) (disch:=first|exact D (by decide)|exact K (by kernel_rfl)) only [E,EE,↓reduceIte,simprocAttr,xk B43 [] .sq rfl,rg B43 [1] 0 false rfl,hr_43_0,xk B43 [2] .sq rfl,rg B43 [1,2] 1 false rfl,hr_43_1,t_39,t_3,callStep,CL,gv,List.contains,xk B43 [2,2] .rt rfl,finK_norm,finK_ret,fin43,R43_ai10rzp_bi.st,hc3]
noncomputable def f43_ai10rzp_bi (k:Nat) (a0 a0_1 a0_2 a0_3 a0_4 a0_5 a0_6 a0_7 a0_8 a0_9:Int) (a0_10:List Int) (e0:Int) : Option R43_ai10rzp_bi := match k with | 0 => none | k + 1 => f43_ai10rzp_bi_e k a0 a0_1 a0_2 a0_3 a0_4 a0_5 a0_6 a0_7 a0_8 a0_9 a0_10 e0
theorem f43_ai10rzp_bi_ok (k:Nat) (a0 a0_1 a0_2 a0_3 a0_4 a0_5 a0_6 a0_7 a0_8 a0_9:Int) (a0_10:List Int) (e0:Int) (r:R43_ai10rzp_bi) (hF:f43_ai10rzp_bi k a0 a0_1 a0_2 a0_3 a0_4 a0_5 a0_6 a0_7 a0_8 a0_9 a0_10 e0 = some r) : CV k 43 [.agg [.p (.int .i64 a0),.p (.int .i64 a0_1),.p (.int .u32 a0_2),.p (.int .i64 a0_3),.p (.int .i64 a0_4),.p (.int .i64 a0_5),.p (.int .i64 a0_6),.p (.int .i64 a0_7),.p (.int .i64 a0_8),.p (.int .i64 a0_9),.sl 1 (rowsOf (encI .u8) a0_10)],.ptr 1000000 0] [.box 3 [.p (.int .i64 e0)]] = some r.st := by
 cases k with
 | zero => cases hF
 | succ k =>
  unfold CV
  rw [ev_call (F := Try.f43) (c := (nav B43 [])) rfl Try.func43 rfl rfl rfl rfl]
  exact f43_ai10rzp_bi_e_ok k a0 a0_1 a0_2 a0_3 a0_4 a0_5 a0_6 a0_7 a0_8 a0_9 a0_10 e0 r hF
-- f61_rF43p_bi: f61 slices.IndexFunc[[]heliograph/api.Bundle,heliograph/api.Bundle]
inductive R61_rF43p_bi where
 | o0 (y y_1:Int)
noncomputable def R61_rF43p_bi.st : R61_rF43p_bi → V × List O × List O
 | .o0 y y_1 => (.p (.int .i64 y),[.box 3 [.p (.int .i64 y_1)]],[])
inductive R61_rF43p_bi_l1 where
 | o0 (y y_1:Int)
 | o1 (y:List T39) (y_1 y_2 y_3:Int)
 | o2 (y:List T39) (y_1 y_2:Int) (y_3:Bool) (y_4:Int)
noncomputable def R61_rF43p_bi_l1.st : R61_rF43p_bi_l1 → Out × St
 | .o0 y y_1 => (.ret,(⟨19,[(4,.p (.int .i64 y))],[(1000000,.box 3 [.p (.int .i64 y_1)])]⟩ : St))
 | .o1 y y_1 y_2 y_3 => (.norm,(⟨19,[(0,.sl 11 (rowsOf encT39 y)),(1,V.fn 43 [.ptr 1000000 0]),(7,.p (.int .i64 y_1)),(8,.p (.int .i64 y_2))],[(1000000,.box 3 [.p (.int .i64 y_3)])]⟩ : St))
 | .o2 y y_1 y_2 y_3 y_4 => (.exit 0,(⟨19,[(0,.sl 11 (rowsOf encT39 y)),(1,V.fn 43 [.ptr 1000000 0]),(7,.p (.int .i64 y_1)),(8,.p (.int .i64 y_2)),(9,.p (.bool y_3))],[(1000000,.box 3 [.p (.int .i64 y_4)])]⟩ : St))
noncomputable def f61_rF43p_bi_l1_j2 (k:Nat) (x0:List T39) (x5 x7 x8:Int) (x16:Bool) (e0:Int) : Option R61_rF43p_bi_l1 :=
 some (R61_rF43p_bi_l1.o1 x0 x7 (IntKind.i64.wrap (x8 + (1:Int))) e0)
theorem f61_rF43p_bi_l1_j2_ok (k:Nat) (x0:List T39) (x5 x7 x8:Int) (x16:Bool) (e0:Int) (r:R61_rF43p_bi_l1) (hF:f61_rF43p_bi_l1_j2 k x0 x5 x7 x8 x16 e0 = some r) : EX 61 k (nav B61 [2,2,2,1,2,2,1,2]) (⟨19,[(0,.sl 11 (rowsOf encT39 x0)),(1,V.fn 43 [.ptr 1000000 0]),(5,.p (.int .i64 x5)),(7,.p (.int .i64 x7)),(8,.p (.int .i64 x8)),(16,.p (.bool x16))],[(1000000,.box 3 [.p (.int .i64 e0)])]⟩ : St) = some r.st := by
 unfold f61_rF43p_bi_l1_j2 at hF
 cases hF
 simp (maxSteps:=999999) (disch:=first|exact D (by decide)|exact K (by kernel_rfl)) only [E,EE,↓reduceIte,simprocAttr,rg B61 [2,2,2,1,2,2,1,2] 6 false rfl,hr_61_6,R61_rF43p_bi_l1.st]
noncomputable def f61_rF43p_bi_l1_j1 (k:Nat) (x0:List T39) (x7 x8:Int) (x9:Bool) (e0:Int) : Option R61_rF43p_bi_l1 :=
 ifE ((0:Int) ≤ x8) (
  Option.bind (x0[(Int.toNat x8)]?) fun v2 =>
   Option.bind (f43_ai10rzp_bi k v2.Source v2.Dest v2.Seq v2.Created v2.Lifetime v2.HopLimit v2.Hops v2.Priority v2.Offset v2.Total v2.Payload e0) fun o4 =>
    match o4 with
    | .o0 v7 v8 =>
     cond (v7)
      (some (R61_rF43p_bi_l1.o0 x8 v8))
      (f61_rF43p_bi_l1_j2 k x0 x8 x7 x8 false v8))
theorem f61_rF43p_bi_l1_j1_ok (k:Nat) (x0:List T39) (x7 x8:Int) (x9:Bool) (e0:Int) (r:R61_rF43p_bi_l1) (hF:f61_rF43p_bi_l1_j1 k x0 x7 x8 x9 e0 = some r) : EX 61 k (nav B61 [2,2,1,2,2,1,2]) (⟨19,[(0,.sl 11 (rowsOf encT39 x0)),(1,V.fn 43 [.ptr 1000000 0]),(7,.p (.int .i64 x7)),(8,.p (.int .i64 x8)),(9,.p (.bool x9))],[(1000000,.box 3 [.p (.int .i64 e0)])]⟩ : St) = some r.st := by
 unfold f61_rF43p_bi_l1_j1 at hF
 obtain ⟨h1,hF⟩ := ifE_some.1 hF
 obtain ⟨v2,h3,hF⟩ := bs hF
 obtain ⟨o4,h5,hF⟩ := bs hF
 have hc6 := f43_ai10rzp_bi_ok k v2.Source v2.Dest v2.Seq v2.Created v2.Lifetime v2.HopLimit v2.Hops v2.Priority v2.Offset v2.Total v2.Payload e0 _ h5
 cases o4 with
 | o0 v7 v8 =>
  (try dsimp only at hF)
  (try simp only [NM,EE,R43_ai10rzp_bi.st] at hc6)
  simp (maxSteps:=999999) (disch:=first|exact D (by decide)|exact K (by kernel_rfl)) only [E,EE,↓reduceIte,simprocAttr,xk B61 [2,2,1,2,2,1,2] .sq rfl,xk B61 [1,2,2,1,2,2,1,2] (.bk 1) rfl,xk B61 [2,1,2,2,1,2,2,1,2] .sq rfl,rg B61 [1,2,1,2,2,1,2,2,1,2] 3 false rfl,hr_61_3,xk B61 [2,2,1,2,2,1,2,2,1,2] .sq rfl,rg B61 [1,2,2,1,2,2,1,2,2,1,2] 4 false rfl,hr_61_4,indexAddrV,t_24,t_39,encT39_eq,callStep,CL,gv,List.contains,xk B61 [2,2,2,1,2,2,1,2,2,1,2] (.cd 16) rfl,h1,h3,hc6]
  rcases cond_some hF with ⟨h9,hF⟩ | ⟨h9,hF⟩
  ·cases hF
   simp (maxSteps:=999999) (disch:=first|exact D (by decide)|exact K (by kernel_rfl)) only [E,EE,↓reduceIte,simprocAttr,xk B61 [2,2,2,2,1,2,2,1,2,2,1,2] .sq rfl,rg B61 [1,2,2,2,2,1,2,2,1,2,2,1,2] 5 false rfl,hr_61_5,xk B61 [2,2,2,2,2,1,2,2,1,2,2,1,2] .rt rfl,R61_rF43p_bi_l1.st,h1,h3,hc6,h9]
  ·have hJ := f61_rF43p_bi_l1_j2_ok k x0 x8 x7 x8 false v8 _ hF
   simp (maxSteps:=999999) (disch:=first|exact D (by decide)|exact K (by kernel_rfl)) only [E,EE,↓reduceIte,simprocAttr,xk B61 [3,2,2,2,1,2,2,1,2,2,1,2] .sk rfl,h1,h3,hc6,h9]
   try simp only [NM,EE] at hJ
   exact hJ
noncomputable def f61_rF43p_bi_l1_b (k:Nat) (x0:List T39) (x7 x8 e0:Int) : Option R61_rF43p_bi_l1 :=
 cond ((decide (x8 < x7)))
  (f61_rF43p_bi_l1_j1 k x0 x7 x8 true e0)
  (some (R61_rF43p_bi_l1.o2 x0 x7 x8 false e0))
theorem f61_rF43p_bi_l1_b_ok (k:Nat) (x0:List T39) (x7 x8 e0:Int) (r:R61_rF43p_bi_l1) (hF:f61_rF43p_bi_l1_b k x0 x7 x8 e0 = some r) : EX 61 k (nav B61 [1,2,2,1,2]) (⟨19,[(0,.sl 11 (rowsOf encT39 x0)),(1,V.fn 43 [.ptr 1000000 0]),(7,.p (.int .i64 x7)),(8,.p (.int .i64 x8))],[(1000000,.box 3 [.p (.int .i64 e0)])]⟩ : St) = some r.st := by
 unfold f61_rF43p_bi_l1_b at hF
 simp (maxSteps:=999999) (disch:=first|exact D (by decide)|exact K (by kernel_rfl)) only [E,EE,↓reduceIte,simprocAttr,xk B61 [1,2,2,1,2] .sq rfl,rg B61 [1,1,2,2,1,2] 2 false rfl,hr_61_2,xk B61 [2,1,2,2,1,2] .sq rfl,xk B61 [1,2,1,2,2,1,2] (.cd 9) rfl]
 rcases cond_some hF with ⟨h1,hF⟩ | ⟨h1,hF⟩
 ·have hJ := f61_rF43p_bi_l1_j1_ok k x0 x7 x8 true e0 _ hF
  simp (maxSteps:=999999) (disch:=first|exact D (by decide)|exact K (by kernel_rfl)) only [E,EE,↓reduceIte,simprocAttr,xk B61 [2,1,2,1,2,2,1,2] .sk rfl,h1]
  try simp only [NM,EE] at hJ
  exact hJ
 ·cases hF
  simp (maxSteps:=999999) (disch:=first|exact D (by decide)|exact K (by kernel_rfl)) only [E,EE,↓reduceIte,simprocAttr,xk B61 [3,1,2,1,2,2,1,2] (.ex 0) rfl,R61_rF43p_bi_l1.st,h1]
noncomputable def f61_rF43p_bi_l1 (k:Nat) : Nat → (List T39) → Int → Int → Int → Option R61_rF43p_bi_l1
 | 0,_,_,_,_ => none
 | n + 1,x0,x7,x8,e0 => Option.bind (f61_rF43p_bi_l1_b k x0 x7 x8 e0) fun o =>
  match o with
  | .o0 y y_1 => some (.o0 y y_1)
  | .o1 y y_1 y_2 y_3 => f61_rF43p_bi_l1 k n y y_1 y_2 y_3
  | .o2 y y_1 y_2 y_3 y_4 => some (.o2 y y_1 y_2 y_3 y_4)
theorem f61_rF43p_bi_l1_ok (k n:Nat) : ∀ (x0:List T39) (x7 x8 e0:Int) (r:R61_rF43p_bi_l1) (hF:f61_rF43p_bi_l1 k n x0 x7 x8 e0 = some r) (σ:St) (hσ:headR (hints.head 61 2) (hints.canon 61 2) σ = some (⟨19,[(0,.sl 11 (rowsOf encT39 x0)),(1,V.fn 43 [.ptr 1000000 0]),(7,.p (.int .i64 x7)),(8,.p (.int .i64 x8))],[(1000000,.box 3 [.p (.int .i64 e0)])]⟩ : St)),LP 61 k (nav B61 [1,2,2,1,2]) n σ = some r.st := by
 induction n with
 | zero => intro x0 x7 x8 e0 r hF; cases hF
 | succ n ih =>
  intro x0 x7 x8 e0 r hF σ hσ
  rw [f61_rF43p_bi_l1] at hF
  obtain ⟨o,h,hF⟩ := Option.bind_eq_some_iff.1 hF
  have hB := f61_rF43p_bi_l1_b_ok k x0 x7 x8 e0 o h
  unfold LP at ih ⊢
  unfold EX at hB
  rw [loopK_succ,show firstReg (nav B61 [1,2,2,1,2]) = 2 from rfl,hσ,headK_some,hB]
  cases o with
  | o0 y y_1 => cases hF; rfl
  | o1 y y_1 y_2 y_3 =>
   refine ih y y_1 y_2 y_3 r hF _ ?_
   simp (maxSteps:=999999) (disch:=first|exact D (by decide)|exact K (by kernel_rfl)) only [E,EE,↓reduceIte,simprocAttr,hh_61_2,hc_61_2]
  | o2 y y_1 y_2 y_3 y_4 => cases hF; rfl
noncomputable def f61_rF43p_bi_j2 (k:Nat) (x0:List T39) (x7 x8:Int) (x9:Bool) (e0:Int) : Option R61_rF43p_bi :=
 some (R61_rF43p_bi.o0 (-1) e0)
theorem f61_rF43p_bi_j2_ok (k:Nat) (x0:List T39) (x7 x8:Int) (x9:Bool) (e0:Int) (r:R61_rF43p_bi) (hF:f61_rF43p_bi_j2 k x0 x7 x8 x9 e0 = some r) : finK Try.prog Try.f61 1 (EX 61 k (nav B61 [2,2]) (⟨19,[(0,.sl 11 (rowsOf encT39 x0)),(1,V.fn 43 [.ptr 1000000 0]),(7,.p (.int .i64 x7)),(8,.p (.int .i64 x8)),(9,.p (.bool x9))],[(1000000,.box 3 [.p (.int .i64 e0)])]⟩ : St)) = some r.st := by
 unfold f61_rF43p_bi_j2 at hF
 cases hF
 simp (maxSteps:=999999) (disch:=first|exact D (by decide)|exact K (by kernel_rfl)) only [E,EE,↓reduceIte,simprocAttr,xk B61 [2,2] .sq rfl,rg B61 [1,2,2] 7 false rfl,hr_61_7,xk B61 [2,2,2] .rt rfl,finK_norm,finK_ret,fin61,R61_rF43p_bi.st]
noncomputable def f61_rF43p_bi_e (k:Nat) (a0:List T39) (e0:Int) : Option R61_rF43p_bi :=
 Option.bind (f61_rF43p_bi_l1 k k a0 ((List.length a0) : Int) 0 e0) fun o1 =>
  match o1 with
  | .o0 v4 v5 =>
   some (R61_rF43p_bi.o0 v4 v5)
  | .o1 _ _ _ _ =>
   none
  | .o2 v6 v7 v8 v9 v10 =>
   f61_rF43p_bi_j2 k v6 v7 v8 v9 v10
theorem f61_rF43p_bi_e_ok (k:Nat) (a0:List T39) (e0:Int) (r:R61_rF43p_bi) (hF:f61_rF43p_bi_e k a0 e0 = some r) : finK Try.prog Try.f61 1 (EX 61 k (nav B61 []) (⟨19,[(0,.sl 11 (rowsOf encT39 a0)),(1,V.fn 43 [.ptr 1000000 0])],[(1000000,.box 3 [.p (.int .i64 e0)])]⟩ : St)) = some r.st := by
 unfold f61_rF43p_bi_e at hF
 obtain ⟨o1,h2,hF⟩ := bs hF
 have hc3 := f61_rF43p_bi_l1_ok k k a0 ((List.length a0) : Int) 0 e0 _ h2
 simp (maxSteps:=999999) (disch:=first|exact D (by decide)|exact K (by kernel_rfl)) only [E,EE,↓reduceIte,simprocAttr,xk B61 [] .sq rfl,rg B61 [1] 0 false rfl,hr_61_0,xk B61 [2] .sq rfl,xk B61 [1,2] .sq rfl,rg B61 [1,1,2] 1 false rfl,hr_61_1,t_24,xk B61 [2,1,2] (.bk 0) rfl,xk B61 [2,2,1,2] .lp rfl,hh_61_2,hc_61_2]
 (try simp only [NM,EE] at hc3)
 rw [hc3 _ (by simp (maxSteps:=999999) (disch:=first|exact D (by decide)|exact K (by kernel_rfl)) only [E,EE,↓reduceIte,simprocAttr,hh_61_2,hc_61_2])]
 clear hc3
 cases o1 with
 | o0 v4 v5 =>
  (try dsimp only at hF)
  cases hF
  simp (maxSteps:=999999) (disch:=first|exact D (by decide)|exact K (by kernel_rfl)) only [E,EE,↓reduceIte,simprocAttr,R61_rF43p_bi_l1.st,finK_norm,finK_ret,fin61,R61_rF43p_bi.st]
 | o1 _ _ _ _ =>
  (try dsimp only at hF)
  cases hF
 | o2 v6 v7 v8 v9 v10 =>
  (try dsimp only at hF)
  have hJ := f61_rF43p_bi_j2_ok k v6 v7 v8 v9 v10 _ hF
  simp (maxSteps:=999999) (disch:=first|exact D (by decide)|exact K (by kernel_rfl)) only [E,EE,↓reduceIte,simprocAttr,R61_rF43p_bi_l1.st]
  try simp only [NM,EE] at hJ
  exact hJ
noncomputable def f61_rF43p_bi (k:Nat) (a0:List T39) (e0:Int) : Option R61_rF43p_bi := match k with | 0 => none | k + 1 => f61_rF43p_bi_e k a0 e0
theorem f61_rF43p_bi_ok (k:Nat) (a0:List T39) (e0:Int) (r:R61_rF43p_bi) (hF:f61_rF43p_bi k a0 e0 = some r) : CV k 61 [.sl 11 (rowsOf encT39 a0),V.fn 43 [.ptr 1000000 0]] [.box 3 [.p (.int .i64 e0)]] = some r.st := by
 cases k with
 | zero => cases hF
 | succ k =>
  unfold CV
  rw [ev_call (F := Try.f61) (c := (nav B61 [])) rfl Try.func61 rfl rfl rfl rfl]
  exact f61_rF43p_bi_e_ok k a0 e0 r hF
-- f42_oF43p_wbi: f42 slices.DeleteFunc[[]heliograph/api.Bundle,heliograph/api.Bundle]
inductive R42_oF43p_wbi where
 | o0 (y:List T39) (y_1:Int)
 | o1 (y y_1:Nat) (y_2:List T39) (y_3:Int)
noncomputable def R42_oF43p_wbi.st : R42_oF43p_wbi → V × List O × List O
 | .o0 y y_1 => (.own 1000000,[.row true 11 39 (rowsOf encT39 y),.box 3 [.p (.int .i64 y_1)]],[])
 | .o1 y y_1 y_2 y_3 => (V.cut 1000000 11 y y_1,[.row true 11 39 (rowsOf encT39 y_2),.box 3 [.p (.int .i64 y_3)]],[])
inductive R42_oF43p_wbi_l2 where
 | o0 (y y_1:Int) (y_2:List T39) (y_3:Int)
 | o1 (y y_1:Int) (y_2:Bool) (y_3:List T39) (y_4:Int)
noncomputable def R42_oF43p_wbi_l2.st : R42_oF43p_wbi_l2 → Out × St
 | .o0 y y_1 y_2 y_3 => (.norm,(⟨42,[(0,.own 1000000),(1,V.fn 43 [.ptr 1000001 0]),(5,.p (.int .i64 y)),(6,.p (.int .i64 y_1))],[(1000000,.row true 11 39 (rowsOf encT39 y_2)),(1000001,.box 3 [.p (.int .i64 y_3)])]⟩ : St))
 | .o1 y y_1 y_2 y_3 y_4 => (.exit 0,(⟨42,[(0,.own 1000000),(1,V.fn 43 [.ptr 1000001 0]),(5,.p (.int .i64 y)),(6,.p (.int .i64 y_1)),(19,.p (.bool y_2))],[(1000000,.row true 11 39 (rowsOf encT39 y_3)),(1000001,.box 3 [.p (.int .i64 y_4)])]⟩ : St))
noncomputable def f42_oF43p_wbi_l2_j2 (k:Nat) (x5 x6:Int) (e0:List T39) (e1:Int) : Option R42_oF43p_wbi_l2 :=
 some (R42_oF43p_wbi_l2.o0 x5 (IntKind.i64.wrap (x6 + (1:Int))) e0 e1)
theorem f42_oF43p_wbi_l2_j2_ok (k:Nat) (x5 x6:Int) (e0:List T39) (e1:Int) (r:R42_oF43p_wbi_l2) (hF:f42_oF43p_wbi_l2_j2 k x5 x6 e0 e1 = some r) : EX 42 k (nav B42 [2,2,1,2,2,1,2,2,2]) (⟨42,[(0,.own 1000000),(1,V.fn 43 [.ptr 1000001 0]),(5,.p (.int .i64 x5)),(6,.p (.int .i64 x6))],[(1000000,.row true 11 39 (rowsOf encT39 e0)),(1000001,.box 3 [.p (.int .i64 e1)])]⟩ : St) = some r.st := by
 unfold f42_oF43p_wbi_l2_j2 at hF
 cases hF
 simp (maxSteps:=999999) (disch:=first|exact D (by decide)|exact K (by kernel_rfl)) only [E,EE,↓reduceIte,simprocAttr,rg B42 [2,2,1,2,2,1,2,2,2] 6 false rfl,hr_42_6,R42_oF43p_wbi_l2.st]
noncomputable def f42_oF43p_wbi_l2_j3 (k:Nat) (x5 x6:Int) (x29:Bool) (e0:List T39) (e1 m7 m7_1 m7_2 m7_3 m7_4 m7_5 m7_6 m7_7 m7_8 m7_9:Int) (m7_10:List Int) : Option R42_oF43p_wbi_l2 :=
 some (R42_oF43p_wbi_l2.o0 x5 (IntKind.i64.wrap (x6 + (1:Int))) e0 e1)
theorem f42_oF43p_wbi_l2_j3_ok (k:Nat) (x5 x6:Int) (x29:Bool) (e0:List T39) (e1 m7 m7_1 m7_2 m7_3 m7_4 m7_5 m7_6 m7_7 m7_8 m7_9:Int) (m7_10:List Int) (r:R42_oF43p_wbi_l2) (hF:f42_oF43p_wbi_l2_j3 k x5 x6 x29 e0 e1 m7 m7_1 m7_2 m7_3 m7_4 m7_5 m7_6 m7_7 m7_8 m7_9 m7_10 = some r) : EX 42 k (nav B42 [2,2,1,2,2,1,2,2,2]) (⟨42,[(0,.own 1000000),(1,V.fn 43 [.ptr 1000001 0]),(5,.p (.int .i64 x5)),(6,.p (.int .i64 x6)),(7,.ptr 7 0),(29,.p (.bool x29))],[(1000000,.row true 11 39 (rowsOf encT39 e0)),(1000001,.box 3 [.p (.int .i64 e1)]),(7,.box 39 [.p (.int .i64 m7),.p (.int .i64 m7_1),.p (.int .u32 m7_2),.p (.int .i64 m7_3),.p (.int .i64 m7_4),.p (.int .i64 m7_5),.p (.int .i64 m7_6),.p (.int .i64 m7_7),.p (.int .i64 m7_8),.p (.int .i64 m7_9),.sl 1 (rowsOf (encI .u8) m7_10)])]⟩ : St) = some r.st := by
 unfold f42_oF43p_wbi_l2_j3 at hF
 cases hF
 simp (maxSteps:=999999) (disch:=first|exact D (by decide)|exact K (by kernel_rfl)) only [E,EE,↓reduceIte,simprocAttr,rg B42 [2,2,1,2,2,1,2,2,2] 6 false rfl,hr_42_6,R42_oF43p_wbi_l2.st]
noncomputable def f42_oF43p_wbi_l2_j1 (k:Nat) (x5 x6:Int) (x19:Bool) (e0:List T39) (e1:Int) : Option R42_oF43p_wbi_l2 :=
 ifE ((0:Int) ≤ x6) (
  ifE (x6 < ((List.length e0) : Int)) (
   Option.bind (e0[(Int.toNat x6)]?) fun v3 =>
    Option.bind (f43_ai10rzp_bi k v3.Source v3.Dest v3.Seq v3.Created v3.Lifetime v3.HopLimit v3.Hops v3.Priority v3.Offset v3.Total v3.Payload e1) fun o5 =>
     match o5 with
     | .o0 v8 v9 =>
      cond ((!v8))
       (
        ifE ((0:Int) ≤ x5) (
         ifE (x5 < ((List.length e0) : Int)) (
          Option.bind (e0[(Int.toNat x5)]?) fun v13 =>
           f42_oF43p_wbi_l2_j2 k (IntKind.i64.wrap (x5 + (1:Int))) x6 (List.set e0 (Int.toNat x5) v3) v9)))
       (f42_oF43p_wbi_l2_j3 k x5 x6 false e0 v9 v3.Source v3.Dest v3.Seq v3.Created v3.Lifetime v3.HopLimit v3.Hops v3.Priority v3.Offset v3.Total v3.Payload)))
theorem f42_oF43p_wbi_l2_j1_ok (k:Nat) (x5 x6:Int) (x19:Bool) (e0:List T39) (e1:Int) (r:R42_oF43p_wbi_l2) (hF:f42_oF43p_wbi_l2_j1 k x5 x6 x19 e0 e1 = some r) : EX 42 k (nav B42 [2,1,2,2,1,2,2,2]) (⟨42,[(0,.own 1000000),(1,V.fn 43 [.ptr 1000001 0]),(5,.p (.int .i64 x5)),(6,.p (.int .i64 x6)),(19,.p (.bool x19))],[(1000000,.row true 11 39 (rowsOf encT39 e0)),(1000001,.box 3 [.p (.int .i64 e1)])]⟩ : St) = some r.st := by
 unfold f42_oF43p_wbi_l2_j1 at hF
 obtain ⟨h1,hF⟩ := ifE_some.1 hF
 obtain ⟨h2,hF⟩ := ifE_some.1 hF
 obtain ⟨v3,h4,hF⟩ := bs hF
 obtain ⟨o5,h6,hF⟩ := bs hF
 have hc7 := f43_ai10rzp_bi_ok k v3.Source v3.Dest v3.Seq v3.Created v3.Lifetime v3.HopLimit v3.Hops v3.Priority v3.Offset v3.Total v3.Payload e1 _ h6
 cases o5 with
 | o0 v8 v9 =>
  (try dsimp only at hF)
  (try simp only [NM,EE,R43_ai10rzp_bi.st] at hc7)
  simp (maxSteps:=999999) (disch:=first|exact D (by decide)|exact K (by kernel_rfl)) only [E,EE,↓reduceIte,simprocAttr,xk B42 [2,1,2,2,1,2,2,2] .sq rfl,xk B42 [1,2,1,2,2,1,2,2,2] (.bk 1) rfl,xk B42 [2,1,2,1,2,2,1,2,2,2] .sq rfl,rg B42 [1,2,1,2,1,2,2,1,2,2,2] 7 false rfl,hr_42_7,indexAddrV,t_24,t_39,encT39_eq,xk B42 [2,2,1,2,1,2,2,1,2,2,2] .sq rfl,rg B42 [1,2,2,1,2,1,2,2,1,2,2,2] 8 false rfl,hr_42_8,callStep,CL,gv,List.contains,xk B42 [2,2,2,1,2,1,2,2,1,2,2,2] (.cd 29) rfl,h1,h2,h4,hc7]
  rcases cond_some hF with ⟨h10,hF⟩ | ⟨h10,hF⟩
  ·obtain ⟨h11,hF⟩ := ifE_some.1 hF
   obtain ⟨h12,hF⟩ := ifE_some.1 hF
   obtain ⟨v13,h14,hF⟩ := bs hF
   have q15 : List.set (rowsOf encT39 e0) (Int.toNat x5) [.p (.int .i64 v3.Source),.p (.int .i64 v3.Dest),.p (.int .u32 v3.Seq),.p (.int .i64 v3.Created),.p (.int .i64 v3.Lifetime),.p (.int .i64 v3.HopLimit),.p (.int .i64 v3.Hops),.p (.int .i64 v3.Priority),.p (.int .i64 v3.Offset),.p (.int .i64 v3.Total),.sl 1 (rowsOf (encI .u8) v3.Payload)] = rowsOf encT39 (List.set e0 (Int.toNat x5) v3) := (rowsOf_set (enc := encT39) (l := e0) (i := (Int.toNat x5)) (x := v3)).symm
   have hJ := f42_oF43p_wbi_l2_j2_ok k (IntKind.i64.wrap (x5 + (1:Int))) x6 (List.set e0 (Int.toNat x5) v3) v9 _ hF
   simp (maxSteps:=999999) (disch:=first|exact D (by decide)|exact K (by kernel_rfl)) only [E,EE,↓reduceIte,simprocAttr,xk B42 [2,2,2,2,1,2,1,2,2,1,2,2,2] .sq rfl,rg B42 [1,2,2,2,2,1,2,1,2,2,1,2,2,2] 9 false rfl,hr_42_9,t_39,indexAddrV,t_24,sm_39,encT39_eq,rg B42 [2,2,2,2,2,1,2,1,2,2,1,2,2,2] 10 false rfl,hr_42_10,h1,h2,h4,hc7,h10,h11,h12,h14,q15]
   try simp only [NM,EE] at hJ
   exact hJ
  ·have hJ := f42_oF43p_wbi_l2_j3_ok k x5 x6 false e0 v9 v3.Source v3.Dest v3.Seq v3.Created v3.Lifetime v3.HopLimit v3.Hops v3.Priority v3.Offset v3.Total v3.Payload _ hF
   simp (maxSteps:=999999) (disch:=first|exact D (by decide)|exact K (by kernel_rfl)) only [E,EE,↓reduceIte,simprocAttr,xk B42 [3,2,2,2,1,2,1,2,2,1,2,2,2] .sk rfl,h1,h2,h4,hc7,h10]
   try simp only [NM,EE] at hJ
   exact hJ
noncomputable def f42_oF43p_wbi_l2_b (k:Nat) (x5 x6:Int) (e0:List T39) (e1:Int) : Option R42_oF43p_wbi_l2 :=
 cond ((decide (x6 < ((List.length e0) : Int))))
  (f42_oF43p_wbi_l2_j1 k x5 x6 true e0 e1)
  (some (R42_oF43p_wbi_l2.o1 x5 x6 false e0 e1))
theorem f42_oF43p_wbi_l2_b_ok (k:Nat) (x5 x6:Int) (e0:List T39) (e1:Int) (r:R42_oF43p_wbi_l2) (hF:f42_oF43p_wbi_l2_b k x5 x6 e0 e1 = some r) : EX 42 k (nav B42 [1,2,2,1,2,2,2]) (⟨42,[(0,.own 1000000),(1,V.fn 43 [.ptr 1000001 0]),(5,.p (.int .i64 x5)),(6,.p (.int .i64 x6))],[(1000000,.row true 11 39 (rowsOf encT39 e0)),(1000001,.box 3 [.p (.int .i64 e1)])]⟩ : St) = some r.st := by
 unfold f42_oF43p_wbi_l2_b at hF
 simp (maxSteps:=999999) (disch:=first|exact D (by decide)|exact K (by kernel_rfl)) only [E,EE,↓reduceIte,simprocAttr,xk B42 [1,2,2,1,2,2,2] .sq rfl,xk B42 [1,1,2,2,1,2,2,2] .sq rfl,rg B42 [1,1,1,2,2,1,2,2,2] 5 false rfl,hr_42_5,t_24,xk B42 [2,1,1,2,2,1,2,2,2] (.cd 19) rfl]
 rcases cond_some hF with ⟨h1,hF⟩ | ⟨h1,hF⟩
 ·have hJ := f42_oF43p_wbi_l2_j1_ok k x5 x6 true e0 e1 _ hF
  simp (maxSteps:=999999) (disch:=first|exact D (by decide)|exact K (by kernel_rfl)) only [E,EE,↓reduceIte,simprocAttr,xk B42 [2,2,1,1,2,2,1,2,2,2] .sk rfl,h1]
  try simp only [NM,EE] at hJ
  exact hJ
 ·cases hF
  simp (maxSteps:=999999) (disch:=first|exact D (by decide)|exact K (by kernel_rfl)) only [E,EE,↓reduceIte,simprocAttr,xk B42 [3,2,1,1,2,2,1,2,2,2] (.ex 0) rfl,R42_oF43p_wbi_l2.st,h1]
noncomputable def f42_oF43p_wbi_l2 (k:Nat) : Nat → Int → Int → (List T39) → Int → Option R42_oF43p_wbi_l2
 | 0,_,_,_,_ => none
 | n + 1,x5,x6,e0,e1 => Option.bind (f42_oF43p_wbi_l2_b k x5 x6 e0 e1) fun o =>
  match o with
  | .o0 y y_1 y_2 y_3 => f42_oF43p_wbi_l2 k n y y_1 y_2 y_3
  | .o1 y y_1 y_2 y_3 y_4 => some (.o1 y y_1 y_2 y_3 y_4)
theorem f42_oF43p_wbi_l2_ok (k n:Nat) : ∀ (x5 x6:Int) (e0:List T39) (e1:Int) (r:R42_oF43p_wbi_l2) (hF:f42_oF43p_wbi_l2 k n x5 x6 e0 e1 = some r) (σ:St) (hσ:headR (hints.head 42 5) (hints.canon 42 5) σ = some (⟨42,[(0,.own 1000000),(1,V.fn 43 [.ptr 1000001 0]),(5,.p (.int .i64 x5)),(6,.p (.int .i64 x6))],[(1000000,.row true 11 39 (rowsOf encT39 e0)),(1000001,.box 3 [.p (.int .i64 e1)])]⟩ : St)),LP 42 k (nav B42 [1,2,2,1,2,2,2]) n σ = some r.st := by
 induction n with
 | zero => intro x5 x6 e0 e1 r hF; cases hF
 | succ n ih =>
  intro x5 x6 e0 e1 r hF σ hσ
  rw [f42_oF43p_wbi_l2] at hF
  obtain ⟨o,h,hF⟩ := Option.bind_eq_some_iff.1 hF
  have hB := f42_oF43p_wbi_l2_b_ok k x5 x6 e0 e1 o h
  unfold LP at ih ⊢
  unfold EX at hB
  rw [loopK_succ,show firstReg (nav B42 [1,2,2,1,2,2,2]) = 5 from rfl,hσ,headK_some,hB]
  cases o with
  | o0 y y_1 y_2 y_3 =>
   refine ih y y_1 y_2 y_3 r hF _ ?_
   simp (maxSteps:=999999) (disch:=first|exact D (by decide)|exact K (by kernel_rfl)) only [E,EE,↓reduceIte,simprocAttr,hh_42_5,hc_42_5]
  | o1 y y_1 y_2 y_3 y_4 => cases hF; rfl
noncomputable def f42_oF43p_wbi_j3 (k:Nat) (x5 x6:Int) (x19:Bool) (e0:List T39) (e1:Int) : Option R42_oF43p_wbi :=
 ifE ((0:Int) ≤ x5) (
  ifE ((Int.toNat x5) ≤ (List.length e0)) (
   ifE (((Int.toNat x5) + ((List.length e0) - (Int.toNat x5))) ≤ (List.length e0)) (
    ifE ((Int.toNat x5) ≤ (List.length (((List.take (Int.toNat x5) e0) ++ (List.replicate (((List.length e0) - (Int.toNat x5))) ((T39.mk 0 0 0 0 0 0 0 0 0 0 []) : T39) ++ (List.drop (((Int.toNat x5) + ((List.length e0) - (Int.toNat x5)))) e0)))))) (
     some (R42_oF43p_wbi.o1 0 (Int.toNat x5) (((List.take (Int.toNat x5) e0) ++ (List.replicate (((List.length e0) - (Int.toNat x5))) ((T39.mk 0 0 0 0 0 0 0 0 0 0 []) : T39) ++ (List.drop (((Int.toNat x5) + ((List.length e0) - (Int.toNat x5)))) e0)))) e1)))))
theorem f42_oF43p_wbi_j3_ok (k:Nat) (x5 x6:Int) (x19:Bool) (e0:List T39) (e1:Int) (r:R42_oF43p_wbi) (hF:f42_oF43p_wbi_j3 k x5 x6 x19 e0 e1 = some r) : finK Try.prog Try.f42 2 (EX 42 k (nav B42 [2,2,2,2]) (⟨42,[(0,.own 1000000),(1,V.fn 43 [.ptr 1000001 0]),(5,.p (.int .i64 x5)),(6,.p (.int .i64 x6)),(19,.p (.bool x19))],[(1000000,.row true 11 39 (rowsOf encT39 e0)),(1000001,.box 3 [.p (.int .i64 e1)])]⟩ : St)) = some r.st := by
 unfold f42_oF43p_wbi_j3 at hF
 obtain ⟨h1,hF⟩ := ifE_some.1 hF
 obtain ⟨h2,hF⟩ := ifE_some.1 hF
 obtain ⟨h3,hF⟩ := ifE_some.1 hF
 have q4 : List.replicate (((List.length e0) - (Int.toNat x5))) [.p (.int .i64 0),.p (.int .i64 0),.p (.int .u32 0),.p (.int .i64 0),.p (.int .i64 0),.p (.int .i64 0),.p (.int .i64 0),.p (.int .i64 0),.p (.int .i64 0),.p (.int .i64 0),.sl 1 []] = rowsOf encT39 (List.replicate (((List.length e0) - (Int.toNat x5))) ((T39.mk 0 0 0 0 0 0 0 0 0 0 []) : T39)) := (rowsOf_replicate (enc := encT39) (n := (((List.length e0) - (Int.toNat x5)))) (x := ((T39.mk 0 0 0 0 0 0 0 0 0 0 []) : T39))).symm
 obtain ⟨h5,hF⟩ := ifE_some.1 hF
 cases hF
 simp (maxSteps:=999999) (disch:=first|exact D (by decide)|exact K (by kernel_rfl)) only [E,EE,↓reduceIte,simprocAttr,xk B42 [2,2,2,2] .sq rfl,rg B42 [1,2,2,2,2] 11 false rfl,hr_42_11,sliceV,bound,t_24,t_39,clearV,sm_39,xk B42 [2,2,2,2,2] .sq rfl,rg B42 [1,2,2,2,2,2] 12 false rfl,hr_42_12,xk B42 [2,2,2,2,2,2] .rt rfl,finK_norm,finK_ret,fin42,R42_oF43p_wbi.st,h1,h2,h3,q4,h5]
noncomputable def f42_oF43p_wbi_j1 (k:Nat) (x5:Int) (x12:Bool) (e0:List T39) (e1:Int) : Option R42_oF43p_wbi :=
 Option.bind (f42_oF43p_wbi_l2 k k x5 (IntKind.i64.wrap (x5 + (1:Int))) e0 e1) fun o1 =>
  match o1 with
  | .o0 _ _ _ _ =>
   none
  | .o1 v4 v5 v6 v7 v8 =>
   f42_oF43p_wbi_j3 k v4 v5 v6 v7 v8
theorem f42_oF43p_wbi_j1_ok (k:Nat) (x5:Int) (x12:Bool) (e0:List T39) (e1:Int) (r:R42_oF43p_wbi) (hF:f42_oF43p_wbi_j1 k x5 x12 e0 e1 = some r) : finK Try.prog Try.f42 2 (EX 42 k (nav B42 [2,2,2]) (⟨42,[(0,.own 1000000),(1,V.fn 43 [.ptr 1000001 0]),(5,.p (.int .i64 x5)),(12,.p (.bool x12))],[(1000000,.row true 11 39 (rowsOf encT39 e0)),(1000001,.box 3 [.p (.int .i64 e1)])]⟩ : St)) = some r.st := by
 unfold f42_oF43p_wbi_j1 at hF
 obtain ⟨o1,h2,hF⟩ := bs hF
 have hc3 := f42_oF43p_wbi_l2_ok k k x5 (IntKind.i64.wrap (x5 + (1:Int))) e0 e1 _ h2
 simp (maxSteps:=999999) (disch:=first|exact D (by decide)|exact K (by kernel_rfl)) only [E,EE,↓reduceIte,simprocAttr,xk B42 [2,2,2] .sq rfl,xk B42 [1,2,2,2] .sq rfl,rg B42 [1,1,2,2,2] 4 false rfl,hr_42_4,xk B42 [2,1,2,2,2] (.bk 0) rfl,xk B42 [2,2,1,2,2,2] .lp rfl,hh_42_5,hc_42_5]
 (try simp only [NM,EE] at hc3)
 rw [hc3 _ (by simp (maxSteps:=999999) (disch:=first|exact D (by decide)|exact K (by kernel_rfl)) only [E,EE,↓reduceIte,simprocAttr,hh_42_5,hc_42_5])]
 clear hc3
 cases o1 with
 | o0 _ _ _ _ =>
  (try dsimp only at hF)
  cases hF
 | o1 v4 v5 v6 v7 v8 =>
  (try dsimp only at hF)
  have hJ := f42_oF43p_wbi_j3_ok k v4 v5 v6 v7 v8 _ hF
  simp (maxSteps:=999999) (disch:=first|exact D (by decide)|exact K (by kernel_rfl)) only [E,EE,↓reduceIte,simprocAttr,R42_oF43p_wbi_l2.st]
  try simp only [NM,EE] at hJ
  exact hJ
noncomputable def f42_oF43p_wbi_e (k:Nat) (e0:List T39) (e1:Int) : Option R42_oF43p_wbi :=
 Option.bind (f61_rF43p_bi k e0 e1) fun o1 =>
  match o1 with
  | .o0 v4 v5 =>
   cond ((v4 == (-1)))
    (some (R42_oF43p_wbi.o0 e0 v5))
    (f42_oF43p_wbi_j1 k v4 false e0 v5)
theorem f42_oF43p_wbi_e_ok (k:Nat) (e0:List T39) (e1:Int) (r:R42_oF43p_wbi) (hF:f42_oF43p_wbi_e k e0 e1 = some r) : finK Try.prog Try.f42 2 (EX 42 k (nav B42 []) (⟨42,[(0,.own 1000000),(1,V.fn 43 [.ptr 1000001 0])],[(1000000,.row true 11 39 (rowsOf encT39 e0)),(1000001,.box 3 [.p (.int .i64 e1)])]⟩ : St)) = some r.st := by
 unfold f42_oF43p_wbi_e at hF
 obtain ⟨o1,h2,hF⟩ := bs hF
 have hc3 := f61_rF43p_bi_ok k e0 e1 _ h2
 cases o1 with
 | o0 v4 v5 =>
  (try dsimp only at hF)
  (try simp only [NM,EE,R61_rF43p_bi.st] at hc3)
  simp (maxSteps:=999999) (disch:=first|exact D (by decide)|exact K (by kernel_rfl)) only [E,EE,↓reduceIte,simprocAttr,xk B42 [] .sq rfl,rg B42 [1] 0 false rfl,hr_42_0,xk B42 [2] .sq rfl,rg B42 [1,2] 1 false rfl,hr_42_1,callStep,CL,gv,List.contains,xk B42 [2,2] .sq rfl,xk B42 [1,2,2] .sq rfl,rg B42 [1,1,2,2] 2 false rfl,hr_42_2,xk B42 [2,1,2,2] (.cd 12) rfl,hc3]
  rcases cond_some hF with ⟨h6,hF⟩ | ⟨h6,hF⟩
  ·cases hF
   simp (maxSteps:=999999) (disch:=first|exact D (by decide)|exact K (by kernel_rfl)) only [E,EE,↓reduceIte,simprocAttr,xk B42 [2,2,1,2,2] .sq rfl,rg B42 [1,2,2,1,2,2] 3 false rfl,hr_42_3,xk B42 [2,2,2,1,2,2] .rt rfl,finK_norm,finK_ret,fin42,R42_oF43p_wbi.st,hc3,h6]
  ·have hJ := f42_oF43p_wbi_j1_ok k v4 false e0 v5 _ hF
   simp (maxSteps:=999999) (disch:=first|exact D (by decide)|exact K (by kernel_rfl)) only [E,EE,↓reduceIte,simprocAttr,xk B42 [3,2,1,2,2] .sk rfl,hc3,h6]
   try simp only [NM,EE] at hJ
   exact hJ
noncomputable def f42_oF43p_wbi (k:Nat) (e0:List T39) (e1:Int) : Option R42_oF43p_wbi := match k with | 0 => none | k + 1 => f42_oF43p_wbi_e k e0 e1
theorem f42_oF43p_wbi_ok (k:Nat) (e0:List T39) (e1:Int) (r:R42_oF43p_wbi) (hF:f42_oF43p_wbi k e0 e1 = some r) : CV k 42 [.own 1000000,V.fn 43 [.ptr 1000001 0]] [.row true 11 39 (rowsOf encT39 e0),.box 3 [.p (.int .i64 e1)]] = some r.st := by
 cases k with
 | zero => cases hF
 | succ k =>
  unfold CV
  rw [ev_call (F := Try.f42) (c := (nav B42 [])) rfl Try.func42 rfl rfl rfl rfl]
  exact f42_oF43p_wbi_e_ok k e0 e1 r hF
-- f22_aiirrzi: f22 heliograph/agent.Expire
inductive R22_aiirrzi where
 | o0 (y y_1:Int) (y_2:List T65) (y_3:Int) (y_4:List T39)
 | o1 (y y_1 y_2:Int) (y_3:List T65) (y_4:List T39)
 | o2 (y y_1:Int) (y_2 y_3:Nat) (y_4:Int) (y_5:List T65) (y_6:List T39)
noncomputable def R22_aiirrzi.st : R22_aiirrzi → V × List O × List O
 | .o0 y y_1 y_2 y_3 y_4 => (V.tup [.agg [.p (.int .i64 y),.p (.int .u32 y_1),.sl 4 (rowsOf encT65 y_2),.own 2000000],.p (.int .i64 y_3)],[],[.row true 11 39 (rowsOf encT39 y_4)])
 | .o1 y y_1 y_2 y_3 y_4 => (V.tup [.agg [.p (.int .i64 y),.p (.int .u32 y_1),.own 2000000,.own 2000001],.p (.int .i64 y_2)],[],[.row true 4 65 (rowsOf encT65 y_3),.row true 11 39 (rowsOf encT39 y_4)])
 | .o2 y y_1 y_2 y_3 y_4 y_5 y_6 => (V.tup [.agg [.p (.int .i64 y),.p (.int .u32 y_1),.own 2000000,V.cut 2000001 11 y_2 y_3],.p (.int .i64 y_4)],[],[.row true 4 65 (rowsOf encT65 y_5),.row true 11 39 (rowsOf encT39 y_6)])
noncomputable def f22_aiirrzi_j2 (k:Nat) (x15:Bool) (m2 m2_1:Int) (m2_2:List T65) (m2_3:List T39) (m3 m4 m4_1:Int) (m4_2:List T65) (s1:List T39) : Option R22_aiirrzi :=
 Option.bind (f26_aiirrz k m2 m2_1 m2_2 m2_3) fun o1 =>
  match o1 with
  | .o0 v4 v5 v6 v7 =>
   Option.bind (f42_oF43p_wbi k v7 m3) fun o8 =>
    match o8 with
    | .o0 v11 v12 =>
     some (R22_aiirrzi.o1 v4 v5 0 v6 v11)
    | .o1 v13 v14 v15 v16 =>
     some (R22_aiirrzi.o2 v4 v5 v13 v14 0 v6 v15)
theorem f22_aiirrzi_j2_ok (k:Nat) (x15:Bool) (m2 m2_1:Int) (m2_2:List T65) (m2_3:List T39) (m3 m4 m4_1:Int) (m4_2:List T65) (s1:List T39) (r:R22_aiirrzi) (hF:f22_aiirrzi_j2 k x15 m2 m2_1 m2_2 m2_3 m3 m4 m4_1 m4_2 s1 = some r) : finK Try.prog Try.f22 0 (EX 22 k (nav B22 [2,2,2]) (⟨25,[(2,.ptr 2 0),(3,.ptr 3 0),(4,.ptr 4 0),(15,.p (.bool x15))],[(2,.box 26 [.p (.int .i64 m2),.p (.int .u32 m2_1),.sl 4 (rowsOf encT65 m2_2),.sl 11 (rowsOf encT39 m2_3)]),(3,.box 3 [.p (.int .i64 m3)]),(4,.box 26 [.p (.int .i64 m4),.p (.int .u32 m4_1),.sl 4 (rowsOf encT65 m4_2),.own 700001]),(700001,.row true 11 39 (rowsOf encT39 s1))]⟩ : St)) = some r.st := by
 unfold f22_aiirrzi_j2 at hF
 obtain ⟨o1,h2,hF⟩ := bs hF
 have hc3 := f26_aiirrz_ok k m2 m2_1 m2_2 m2_3 _ h2
 cases o1 with
 | o0 v4 v5 v6 v7 =>
  (try dsimp only at hF)
  (try simp only [NM,EE,R26_aiirrz.st] at hc3)
  simp (maxSteps:=999999) (disch:=first|exact D (by decide)|exact K (by kernel_rfl)) only [E,EE,↓reduceIte,simprocAttr,xk B22 [2,2,2] .sq rfl,rg B22 [1,2,2,2] 6 false rfl,hr_22_6,t_26,callStep,CL,gv,List.contains,xk B22 [2,2,2,2] .sq rfl,rg B22 [1,2,2,2,2] 7 false rfl,hr_22_7,fieldAddrV,t_24,hc3]
  obtain ⟨o8,h9,hF⟩ := bs hF
  have hc10 := f42_oF43p_wbi_ok k v7 m3 _ h9
  cases o8 with
  | o0 v11 v12 =>
   (try dsimp only at hF)
   (try simp only [NM,EE,R42_oF43p_wbi.st] at hc10)
   cases hF
   simp (maxSteps:=999999) (disch:=first|exact D (by decide)|exact K (by kernel_rfl)) only [E,EE,↓reduceIte,simprocAttr,fieldAddrV,t_26,t_24,xk B22 [2,2,2,2,2] .sq rfl,rg B22 [1,2,2,2,2,2] 8 false rfl,hr_22_8,xk B22 [2,2,2,2,2,2] .rt rfl,finK_norm,finK_ret,fin22,R22_aiirrzi.st,hc3,hc10]
  | o1 v13 v14 v15 v16 =>
   (try dsimp only at hF)
   (try simp only [NM,EE,R42_oF43p_wbi.st] at hc10)
   cases hF
   simp (maxSteps:=999999) (disch:=first|exact D (by decide)|exact K (by kernel_rfl)) only [E,EE,↓reduceIte,simprocAttr,fieldAddrV,t_26,t_24,xk B22 [2,2,2,2,2] .sq rfl,rg B22 [1,2,2,2,2,2] 8 false rfl,hr_22_8,xk B22 [2,2,2,2,2,2] .rt rfl,finK_norm,finK_ret,fin22,R22_aiirrzi.st,hc3,hc10]
noncomputable def f22_aiirrzi_j1 (k:Nat) (x6:Int) (x10:Bool) (m2 m2_1:Int) (m2_2:List T65) (m2_3:List T39) (m3 m4 m4_1:Int) (m4_2:List T65) (s1:List T39) : Option R22_aiirrzi :=
 Option.bind (f23_iii k m3 0 1048576) fun o1 =>
  match o1 with
  | .o0 v4 =>
   cond ((!v4))
    (some (R22_aiirrzi.o0 0 0 [] 2 []))
    (f22_aiirrzi_j2 k false m2 m2_1 m2_2 m2_3 m3 m4 m4_1 m4_2 s1)
theorem f22_aiirrzi_j1_ok (k:Nat) (x6:Int) (x10:Bool) (m2 m2_1:Int) (m2_2:List T65) (m2_3:List T39) (m3 m4 m4_1:Int) (m4_2:List T65) (s1:List T39) (r:R22_aiirrzi) (hF:f22_aiirrzi_j1 k x6 x10 m2 m2_1 m2_2 m2_3 m3 m4 m4_1 m4_2 s1 = some r) : finK Try.prog Try.f22 0 (EX 22 k (nav B22 [2,2]) (⟨25,[(2,.ptr 2 0),(3,.ptr 3 0),(4,.ptr 4 0),(6,.p (.int .i64 x6)),(10,.p (.bool x10))],[(2,.box 26 [.p (.int .i64 m2),.p (.int .u32 m2_1),.sl 4 (rowsOf encT65 m2_2),.sl 11 (rowsOf encT39 m2_3)]),(3,.box 3 [.p (.int .i64 m3)]),(4,.box 26 [.p (.int .i64 m4),.p (.int .u32 m4_1),.sl 4 (rowsOf encT65 m4_2),.own 700001]),(700001,.row true 11 39 (rowsOf encT39 s1))]⟩ : St)) = some r.st := by
 unfold f22_aiirrzi_j1 at hF
 obtain ⟨o1,h2,hF⟩ := bs hF
 have hc3 := f23_iii_ok k m3 0 1048576 _ h2
 cases o1 with
 | o0 v4 =>
  (try dsimp only at hF)
  (try simp only [NM,EE,R23_iii.st] at hc3)
  simp (maxSteps:=999999) (disch:=first|exact D (by decide)|exact K (by kernel_rfl)) only [E,EE,↓reduceIte,simprocAttr,xk B22 [2,2] .sq rfl,xk B22 [1,2,2] .sq rfl,rg B22 [1,1,2,2] 4 false rfl,hr_22_4,t_3,callStep,CL,gv,List.contains,xk B22 [2,1,2,2] (.cd 15) rfl,hc3]
  rcases cond_some hF with ⟨h5,hF⟩ | ⟨h5,hF⟩
  ·cases hF
   simp (maxSteps:=999999) (disch:=first|exact D (by decide)|exact K (by kernel_rfl)) only [E,EE,↓reduceIte,simprocAttr,xk B22 [2,2,1,2,2] .sq rfl,rg B22 [1,2,2,1,2,2] 5 false rfl,hr_22_5,bl_26,t_26,xk B22 [2,2,2,1,2,2] .rt rfl,finK_norm,finK_ret,fin22,R22_aiirrzi.st,hc3,h5]
  ·have hJ := f22_aiirrzi_j2_ok k false m2 m2_1 m2_2 m2_3 m3 m4 m4_1 m4_2 s1 _ hF
   simp (maxSteps:=999999) (disch:=first|exact D (by decide)|exact K (by kernel_rfl)) only [E,EE,↓reduceIte,simprocAttr,xk B22 [3,2,1,2,2] .sk rfl,hc3,h5]
   try simp only [NM,EE] at hJ
   exact hJ
noncomputable def f22_aiirrzi_e (k:Nat) (a0 a0_1:Int) (a0_2:List T65) (a0_3:List T39) (a1:Int) : Option R22_aiirrzi :=
 Option.bind (f19_aiirrz k a0 a0_1 a0_2 a0_3) fun o1 =>
  match o1 with
  | .o0 v4 =>
   cond ((v4 != 0))
    (some (R22_aiirrzi.o0 0 0 [] v4 []))
    (f22_aiirrzi_j1 k v4 false a0 a0_1 a0_2 a0_3 a1 0 0 [] [])
theorem f22_aiirrzi_e_ok (k:Nat) (a0 a0_1:Int) (a0_2:List T65) (a0_3:List T39) (a1:Int) (r:R22_aiirrzi) (hF:f22_aiirrzi_e k a0 a0_1 a0_2 a0_3 a1 = some r) : finK Try.prog Try.f22 0 (EX 22 k (nav B22 []) (⟨25,[(0,.agg [.p (.int .i64 a0),.p (.int .u32 a0_1),.sl 4 (rowsOf encT65 a0_2),.sl 11 (rowsOf encT39 a0_3)]),(1,.p (.int .i64 a1))],[]⟩ : St)) = some r.st := by
 unfold f22_aiirrzi_e at hF
 obtain ⟨o1,h2,hF⟩ := bs hF
 have hc3 := f19_aiirrz_ok k a0 a0_1 a0_2 a0_3 _ h2
 cases o1 with
 | o0 v4 =>
  (try dsimp only at hF)
  (try simp only [NM,EE,R19_aiirrz.st] at hc3)
  simp (maxSteps:=999999) (disch:=first|exact D (by decide)|exact K (by kernel_rfl)) only [E,EE,↓reduceIte,simprocAttr,xk B22 [] .sq rfl,rg B22 [1] 0 false rfl,hr_22_0,t_26,xk B22 [2] .sq rfl,xk B22 [1,2] .sq rfl,rg B22 [1,1,2] 1 false rfl,hr_22_1,callStep,CL,gv,List.contains,xk B22 [2,1,2] .sq rfl,rg B22 [1,2,1,2] 2 false rfl,hr_22_2,xk B22 [2,2,1,2] (.cd 10) rfl,hc3]
  rcases cond_some hF with ⟨h5,hF⟩ | ⟨h5,hF⟩
  ·cases hF
   simp (maxSteps:=999999) (disch:=first|exact D (by decide)|exact K (by kernel_rfl)) only [E,EE,↓reduceIte,simprocAttr,xk B22 [2,2,2,1,2] .sq rfl,rg B22 [1,2,2,2,1,2] 3 false rfl,hr_22_3,bl_26,t_26,xk B22 [2,2,2,2,1,2] .rt rfl,finK_norm,finK_ret,fin22,R22_aiirrzi.st,hc3,h5]
  ·have hJ := f22_aiirrzi_j1_ok k v4 false a0 a0_1 a0_2 a0_3 a1 0 0 [] [] _ hF
   simp (maxSteps:=999999) (disch:=first|exact D (by decide)|exact K (by kernel_rfl)) only [E,EE,↓reduceIte,simprocAttr,xk B22 [3,2,2,1,2] .sk rfl,hc3,h5]
   try simp only [NM,EE] at hJ
   exact hJ
noncomputable def f22_aiirrzi (k:Nat) (a0 a0_1:Int) (a0_2:List T65) (a0_3:List T39) (a1:Int) : Option R22_aiirrzi := match k with | 0 => none | k + 1 => f22_aiirrzi_e k a0 a0_1 a0_2 a0_3 a1
theorem f22_aiirrzi_ok (k:Nat) (a0 a0_1:Int) (a0_2:List T65) (a0_3:List T39) (a1:Int) (r:R22_aiirrzi) (hF:f22_aiirrzi k a0 a0_1 a0_2 a0_3 a1 = some r) : CV k 22 [.agg [.p (.int .i64 a0),.p (.int .u32 a0_1),.sl 4 (rowsOf encT65 a0_2),.sl 11 (rowsOf encT39 a0_3)],.p (.int .i64 a1)] [] = some r.st := by
 cases k with
 | zero => cases hF
 | succ k =>
  unfold CV
  rw [ev_call (F := Try.f22) (c := (nav B22 [])) rfl Try.func22 rfl rfl rfl rfl]
  exact f22_aiirrzi_e_ok k a0 a0_1 a0_2 a0_3 a1 r hF
-- f27_rai4z: f27 heliograph/heliographref19.Has
inductive R27_rai4z where
 | o0 (y:Bool)
noncomputable def R27_rai4z.st : R27_rai4z → V × List O × List O
 | .o0 y => (.p (.bool y),[],[])
inductive R27_rai4z_l1 where
 | o0 (y:Bool)
 | o1 (y:List T65) (y_1 y_2 y_3 y_4 y_5:Int)
 | o2 (y:List T65) (y_1:Int) (y_2:Bool) (y_3 y_4 y_5 y_6:Int)
noncomputable def R27_rai4z_l1.st : R27_rai4z_l1 → Out × St
 | .o0 y => (.ret,(⟨18,[(4,.p (.bool y))],[]⟩ : St))
 | .o1 y y_1 y_2 y_3 y_4 y_5 => (.norm,(⟨18,[(0,.sl 4 (rowsOf encT65 y)),(3,.ptr 30000 0),(5,.p (.int .i64 y_1))],[(30000,.box 65 [.p (.int .i64 y_2),.p (.int .u32 y_3),.p (.int .i64 y_4),.p (.int .i64 y_5)])]⟩ : St))
 | .o2 y y_1 y_2 y_3 y_4 y_5 y_6 => (.exit 0,(⟨18,[(0,.sl 4 (rowsOf encT65 y)),(3,.ptr 30000 0),(5,.p (.int .i64 y_1)),(9,.p (.bool y_2))],[(30000,.box 65 [.p (.int .i64 y_3),.p (.int .u32 y_4),.p (.int .i64 y_5),.p (.int .i64 y_6)])]⟩ : St))
noncomputable def f27_rai4z_l1_j2 (k:Nat) (x0:List T65) (x5:Int) (x17:Bool) (h0_ h0__1 h0__2 h0__3:Int) : Option R27_rai4z_l1 :=
 some (R27_rai4z_l1.o1 x0 (IntKind.i64.wrap (x5 + (1:Int))) h0_ h0__1 h0__2 h0__3)
theorem f27_rai4z_l1_j2_ok (k:Nat) (x0:List T65) (x5:Int) (x17:Bool) (h0_ h0__1 h0__2 h0__3:Int) (r:R27_rai4z_l1) (hF:f27_rai4z_l1_j2 k x0 x5 x17 h0_ h0__1 h0__2 h0__3 = some r) : EX 27 k (nav B27 [2,2,1,2,2,1,2]) (⟨18,[(0,.sl 4 (rowsOf encT65 x0)),(3,.ptr 30000 0),(5,.p (.int .i64 x5)),(17,.p (.bool x17))],[(30000,.box 65 [.p (.int .i64 h0_),.p (.int .u32 h0__1),.p (.int .i64 h0__2),.p (.int .i64 h0__3)])]⟩ : St) = some r.st := by
 unfold f27_rai4z_l1_j2 at hF
 cases hF
 simp (maxSteps:=999999) (disch:=first|exact D (by decide)|exact K (by kernel_rfl)) only [E,EE,↓reduceIte,simprocAttr,rg B27 [2,2,1,2,2,1,2] 3 false rfl,hr_27_3,R27_rai4z_l1.st]
noncomputable def f27_rai4z_l1_j1 (k:Nat) (x0:List T65) (x5:Int) (x9:Bool) (h0_ h0__1 h0__2 h0__3:Int) : Option R27_rai4z_l1 :=
 ifE ((0:Int) ≤ x5) (
  Option.bind (x0[(Int.toNat x5)]?) fun v2 =>
   cond ((((v2.Key_Source == h0_) && ((v2.Key_Seq == h0__1) && (v2.Key_Offset == h0__2))) && (v2.N == h0__3)))
    (some (R27_rai4z_l1.o0 true))
    (f27_rai4z_l1_j2 k x0 x5 false h0_ h0__1 h0__2 h0__3))
theorem f27_rai4z_l1_j1_ok (k:Nat) (x0:List T65) (x5:Int) (x9:Bool) (h0_ h0__1 h0__2 h0__3:Int) (r:R27_rai4z_l1) (hF:f27_rai4z_l1_j1 k x0 x5 x9 h0_ h0__1 h0__2 h0__3 = some r) : EX 27 k (nav B27 [2,1,2,2,1,2]) (⟨18,[(0,.sl 4 (rowsOf encT65 x0)),(3,.ptr 30000 0),(5,.p (.int .i64 x5)),(9,.p (.bool x9))],[(30000,.box 65 [.p (.int .i64 h0_),.p (.int .u32 h0__1),.p (.int .i64 h0__2),.p (.int .i64 h0__3)])]⟩ : St) = some r.st := by
 unfold f27_rai4z_l1_j1 at hF
 obtain ⟨h1,hF⟩ := ifE_some.1 hF
 obtain ⟨v2,h3,hF⟩ := bs hF
 simp (maxSteps:=999999) (disch:=first|exact D (by decide)|exact K (by kernel_rfl)) only [E,EE,↓reduceIte,simprocAttr,xk B27 [2,1,2,2,1,2] .sq rfl,xk B27 [1,2,1,2,2,1,2] (.bk 1) rfl,xk B27 [2,1,2,1,2,2,1,2] .sq rfl,rg B27 [1,2,1,2,1,2,2,1,2] 4 true rfl,hr_27_4,indexAddrV,t_23,t_65,encT65_eq,ag_65,ag_63,t_63,t_3,t_22,xk B27 [2,2,1,2,1,2,2,1,2] (.cd 17) rfl,h1,h3]
 rcases cond_some hF with ⟨h4,hF⟩ | ⟨h4,hF⟩
 ·cases hF
  simp (maxSteps:=999999) (disch:=first|exact D (by decide)|exact K (by kernel_rfl)) only [E,EE,↓reduceIte,simprocAttr,xk B27 [2,2,2,1,2,1,2,2,1,2] .sq rfl,rg B27 [1,2,2,2,1,2,1,2,2,1,2] 5 false rfl,hr_27_5,xk B27 [2,2,2,2,1,2,1,2,2,1,2] .rt rfl,R27_rai4z_l1.st,h1,h3,h4]
 ·have hJ := f27_rai4z_l1_j2_ok k x0 x5 false h0_ h0__1 h0__2 h0__3 _ hF
  simp (maxSteps:=999999) (disch:=first|exact D (by decide)|exact K (by kernel_rfl)) only [E,EE,↓reduceIte,simprocAttr,xk B27 [3,2,2,1,2,1,2,2,1,2] .sk rfl,h1,h3,h4]
  try simp only [NM,EE] at hJ
  exact hJ
noncomputable def f27_rai4z_l1_b (k:Nat) (x0:List T65) (x5 h0_ h0__1 h0__2 h0__3:Int) : Option R27_rai4z_l1 :=
 cond ((decide (x5 < ((List.length x0) : Int))))
  (f27_rai4z_l1_j1 k x0 x5 true h0_ h0__1 h0__2 h0__3)
  (some (R27_rai4z_l1.o2 x0 x5 false h0_ h0__1 h0__2 h0__3))
theorem f27_rai4z_l1_b_ok (k:Nat) (x0:List T65) (x5 h0_ h0__1 h0__2 h0__3:Int) (r:R27_rai4z_l1) (hF:f27_rai4z_l1_b k x0 x5 h0_ h0__1 h0__2 h0__3 = some r) : EX 27 k (nav B27 [1,2,2,1,2]) (⟨18,[(0,.sl 4 (rowsOf encT65 x0)),(3,.ptr 30000 0),(5,.p (.int .i64 x5))],[(30000,.box 65 [.p (.int .i64 h0_),.p (.int .u32 h0__1),.p (.int .i64 h0__2),.p (.int .i64 h0__3)])]⟩ : St) = some r.st := by
 unfold f27_rai4z_l1_b at hF
 simp (maxSteps:=999999) (disch:=first|exact D (by decide)|exact K (by kernel_rfl)) only [E,EE,↓reduceIte,simprocAttr,xk B27 [1,2,2,1,2] .sq rfl,xk B27 [1,1,2,2,1,2] .sq rfl,rg B27 [1,1,1,2,2,1,2] 2 false rfl,hr_27_2,t_23,xk B27 [2,1,1,2,2,1,2] (.cd 9) rfl]
 rcases cond_some hF with ⟨h1,hF⟩ | ⟨h1,hF⟩
 ·have hJ := f27_rai4z_l1_j1_ok k x0 x5 true h0_ h0__1 h0__2 h0__3 _ hF
  simp (maxSteps:=999999) (disch:=first|exact D (by decide)|exact K (by kernel_rfl)) only [E,EE,↓reduceIte,simprocAttr,xk B27 [2,2,1,1,2,2,1,2] .sk rfl,h1]
  try simp only [NM,EE] at hJ
  exact hJ
 ·cases hF
  simp (maxSteps:=999999) (disch:=first|exact D (by decide)|exact K (by kernel_rfl)) only [E,EE,↓reduceIte,simprocAttr,xk B27 [3,2,1,1,2,2,1,2] (.ex 0) rfl,R27_rai4z_l1.st,h1]
noncomputable def f27_rai4z_l1 (k:Nat) : Nat → (List T65) → Int → Int → Int → Int → Int → Option R27_rai4z_l1
 | 0,_,_,_,_,_,_ => none
 | n + 1,x0,x5,h0_,h0__1,h0__2,h0__3 => Option.bind (f27_rai4z_l1_b k x0 x5 h0_ h0__1 h0__2 h0__3) fun o =>
  match o with
  | .o0 y => some (.o0 y)
  | .o1 y y_1 y_2 y_3 y_4 y_5 => f27_rai4z_l1 k n y y_1 y_2 y_3 y_4 y_5
  | .o2 y y_1 y_2 y_3 y_4 y_5 y_6 => some (.o2 y y_1 y_2 y_3 y_4 y_5 y_6)
theorem f27_rai4z_l1_ok (k n:Nat) : ∀ (x0:List T65) (x5 h0_ h0__1 h0__2 h0__3:Int) (r:R27_rai4z_l1) (hF:f27_rai4z_l1 k n x0 x5 h0_ h0__1 h0__2 h0__3 = some r) (σ:St) (hσ:headR (hints.head 27 2) (hints.canon 27 2) σ = some (⟨18,[(0,.sl 4 (rowsOf encT65 x0)),(3,.ptr 30000 0),(5,.p (.int .i64 x5))],[(30000,.box 65 [.p (.int .i64 h0_),.p (.int .u32 h0__1),.p (.int .i64 h0__2),.p (.int .i64 h0__3)])]⟩ : St)),LP 27 k (nav B27 [1,2,2,1,2]) n σ = some r.st := by
 induction n with
 | zero => intro x0 x5 h0_ h0__1 h0__2 h0__3 r hF; cases hF
 | succ n ih =>
  intro x0 x5 h0_ h0__1 h0__2 h0__3 r hF σ hσ
  rw [f27_rai4z_l1] at hF
  obtain ⟨o,h,hF⟩ := Option.bind_eq_some_iff.1 hF
  have hB := f27_rai4z_l1_b_ok k x0 x5 h0_ h0__1 h0__2 h0__3 o h
  unfold LP at ih ⊢
  unfold EX at hB
  rw [loopK_succ,show firstReg (nav B27 [1,2,2,1,2]) = 2 from rfl,hσ,headK_some,hB]
  cases o with
  | o0 y => cases hF; rfl
  | o1 y y_1 y_2 y_3 y_4 y_5 =>
   refine ih y y_1 y_2 y_3 y_4 y_5 r hF _ ?_
   simp (maxSteps:=999999) (disch:=first|exact D (by decide)|exact K (by kernel_rfl)) only [E,EE,↓reduceIte,simprocAttr,hh_27_2,hc_27_2]
  | o2 y y_1 y_2 y_3 y_4 y_5 y_6 => cases hF; rfl
noncomputable def f27_rai4z_j2 (k:Nat) (x0:List T65) (x5:Int) (x9:Bool) (h0_ h0__1 h0__2 h0__3:Int) : Option R27_rai4z :=
 some (R27_rai4z.o0 false)
theorem f27_rai4z_j2_ok (k:Nat) (x0:List T65) (x5:Int) (x9:Bool) (h0_ h0__1 h0__2 h0__3:Int) (r:R27_rai4z) (hF:f27_rai4z_j2 k x0 x5 x9 h0_ h0__1 h0__2 h0__3 = some r) : finK Try.prog Try.f27 0 (EX 27 k (nav B27 [2,2]) (⟨18,[(0,.sl 4 (rowsOf encT65 x0)),(3,.ptr 30000 0),(5,.p (.int .i64 x5)),(9,.p (.bool x9))],[(30000,.box 65 [.p (.int .i64 h0_),.p (.int .u32 h0__1),.p (.int .i64 h0__2),.p (.int .i64 h0__3)])]⟩ : St)) = some r.st := by
 unfold f27_rai4z_j2 at hF
 cases hF
 simp (maxSteps:=999999) (disch:=first|exact D (by decide)|exact K (by kernel_rfl)) only [E,EE,↓reduceIte,simprocAttr,xk B27 [2,2] .sq rfl,rg B27 [1,2,2] 6 false rfl,hr_27_6,xk B27 [2,2,2] .rt rfl,finK_norm,finK_ret,fin27,R27_rai4z.st]
noncomputable def f27_rai4z_e (k:Nat) (a0:List T65) (a1 a1_1 a1_2 a1_3:Int) : Option R27_rai4z :=
 Option.bind (f27_rai4z_l1 k k a0 0 a1 a1_1 a1_2 a1_3) fun o1 =>
  match o1 with
  | .o0 v4 =>
   some (R27_rai4z.o0 v4)
  | .o1 _ _ _ _ _ _ =>
   none
  | .o2 v5 v6 v7 v8 v9 v10 v11 =>
   f27_rai4z_j2 k v5 v6 v7 v8 v9 v10 v11
theorem f27_rai4z_e_ok (k:Nat) (a0:List T65) (a1 a1_1 a1_2 a1_3:Int) (r:R27_rai4z) (hF:f27_rai4z_e k a0 a1 a1_1 a1_2 a1_3 = some r) : finK Try.prog Try.f27 0 (EX 27 k (nav B27 []) (⟨18,[(0,.sl 4 (rowsOf encT65 a0)),(1,.agg [.p (.int .i64 a1),.p (.int .u32 a1_1),.p (.int .i64 a1_2),.p (.int .i64 a1_3)])],[]⟩ : St)) = some r.st := by
 unfold f27_rai4z_e at hF
 obtain ⟨o1,h2,hF⟩ := bs hF
 have hc3 := f27_rai4z_l1_ok k k a0 0 a1 a1_1 a1_2 a1_3 _ h2
 simp (maxSteps:=999999) (disch:=first|exact D (by decide)|exact K (by kernel_rfl)) only [E,EE,↓reduceIte,simprocAttr,xk B27 [] .sq rfl,rg B27 [1] 0 false rfl,hr_27_0,xk B27 [2] .sq rfl,xk B27 [1,2] .sq rfl,rg B27 [1,1,2] 1 false rfl,hr_27_1,xk B27 [2,1,2] (.bk 0) rfl,xk B27 [2,2,1,2] .lp rfl,hh_27_2,hc_27_2]
 (try simp only [NM,EE] at hc3)
 rw [hc3 _ (by simp (maxSteps:=999999) (disch:=first|exact D (by decide)|exact K (by kernel_rfl)) only [E,EE,↓reduceIte,simprocAttr,hh_27_2,hc_27_2])]
 clear hc3
 cases o1 with
 | o0 v4 =>
  (try dsimp only at hF)
  cases hF
  simp (maxSteps:=999999) (disch:=first|exact D (by decide)|exact K (by kernel_rfl)) only [E,EE,↓reduceIte,simprocAttr,R27_rai4z_l1.st,finK_norm,finK_ret,fin27,R27_rai4z.st]
 | o1 _ _ _ _ _ _ =>
  (try dsimp only at hF)
  cases hF
 | o2 v5 v6 v7 v8 v9 v10 v11 =>
  (try dsimp only at hF)
  have hJ := f27_rai4z_j2_ok k v5 v6 v7 v8 v9 v10 v11 _ hF
  simp (maxSteps:=999999) (disch:=first|exact D (by decide)|exact K (by kernel_rfl)) only [E,EE,↓reduceIte,simprocAttr,R27_rai4z_l1.st]
  try simp only [NM,EE] at hJ
  exact hJ
noncomputable def f27_rai4z (k:Nat) (a0:List T65) (a1 a1_1 a1_2 a1_3:Int) : Option R27_rai4z := match k with | 0 => none | k + 1 => f27_rai4z_e k a0 a1 a1_1 a1_2 a1_3
theorem f27_rai4z_ok (k:Nat) (a0:List T65) (a1 a1_1 a1_2 a1_3:Int) (r:R27_rai4z) (hF:f27_rai4z k a0 a1 a1_1 a1_2 a1_3 = some r) : CV k 27 [.sl 4 (rowsOf encT65 a0),.agg [.p (.int .i64 a1),.p (.int .u32 a1_1),.p (.int .i64 a1_2),.p (.int .i64 a1_3)]] [] = some r.st := by
 cases k with
 | zero => cases hF
 | succ k =>
  unfold CV
  rw [ev_call (F := Try.f27) (c := (nav B27 [])) rfl Try.func27 rfl rfl rfl rfl]
  exact f27_rai4z_e_ok k a0 a1 a1_1 a1_2 a1_3 r hF
end Go.Proofs.YticggdfaehneeaaV