/- What the program's functions answer: plain functions,and that the interpreter answers what they do. Written by a program of this session,out of the translation. -/
import Derived.Test.YticggdfaehneeaaVP1
namespace Go.Proofs.YticggdfaehneeaaV
open Go
set_option linter.unusedVariables false
set_option linter.unusedSimpArgs false
set_option maxRecDepth 8000
set_option maxHeartbeats 4000000
-- f36_aiirrzaiiz: f36 heliograph/agent.of
inductive R36_aiirrzaiiz where
 | o0 (y:List T39)
noncomputable def R36_aiirrzaiiz.st : R36_aiirrzaiiz → V × List O × List O
 | .o0 y => (.own 2000000,[],[.row true 11 39 (rowsOf encT39 y)])
inductive R36_aiirrzaiiz_l1 where
 | o0 (y:List T39) (y_1 y_2 y_3 y_4:Int) (y_5:List T39)
 | o1 (y:List T39) (y_1 y_2 y_3 y_4:Int) (y_5:List T39)
 | o2 (y:List T39) (y_1 y_2:Int) (y_3:Bool) (y_4 y_5:Int) (y_6:List T39)
noncomputable def R36_aiirrzaiiz_l1.st : R36_aiirrzaiiz_l1 → Out × St
 | .o0 y y_1 y_2 y_3 y_4 y_5 => (.norm,(⟨25,[(3,.ptr 30000 0),(5,.own 22),(9,.sl 11 (rowsOf encT39 y)),(10,.p (.int .i64 y_1)),(11,.p (.int .i64 y_2))],[(30000,.box 79 [.p (.int .i64 y_3),.p (.int .u32 y_4)]),(22,.row true 11 39 (rowsOf encT39 y_5))]⟩ : St))
 | .o1 y y_1 y_2 y_3 y_4 y_5 => (.norm,(⟨25,[(3,.ptr 30000 0),(5,.own 30001),(9,.sl 11 (rowsOf encT39 y)),(10,.p (.int .i64 y_1)),(11,.p (.int .i64 y_2))],[(30000,.box 79 [.p (.int .i64 y_3),.p (.int .u32 y_4)]),(30001,.row true 11 39 (rowsOf encT39 y_5))]⟩ : St))
 | .o2 y y_1 y_2 y_3 y_4 y_5 y_6 => (.exit 0,(⟨25,[(3,.ptr 30000 0),(5,.own 30001),(9,.sl 11 (rowsOf encT39 y)),(10,.p (.int .i64 y_1)),(11,.p (.int .i64 y_2)),(12,.p (.bool y_3))],[(30000,.box 79 [.p (.int .i64 y_4),.p (.int .u32 y_5)]),(30001,.row true 11 39 (rowsOf encT39 y_6))]⟩ : St))
noncomputable def f36_aiirrzaiiz_l1_j2 (k:Nat) (x9:List T39) (x10 x11 h0_ h0__1:Int) (m22:List T39) : Option R36_aiirrzaiiz_l1 :=
 some (R36_aiirrzaiiz_l1.o0 x9 x10 (IntKind.i64.wrap (x11 + (1:Int))) h0_ h0__1 m22)
theorem f36_aiirrzaiiz_l1_j2_ok (k:Nat) (x9:List T39) (x10 x11 h0_ h0__1:Int) (m22:List T39) (r:R36_aiirrzaiiz_l1) (hF:f36_aiirrzaiiz_l1_j2 k x9 x10 x11 h0_ h0__1 m22 = some r) : EX 36 k (nav B36 [2,2,2,1,2,2,1,2,2]) (⟨25,[(3,.ptr 30000 0),(5,.own 22),(9,.sl 11 (rowsOf encT39 x9)),(10,.p (.int .i64 x10)),(11,.p (.int .i64 x11))],[(30000,.box 79 [.p (.int .i64 h0_),.p (.int .u32 h0__1)]),(22,.row true 11 39 (rowsOf encT39 m22))]⟩ : St) = some r.st := by
 unfold f36_aiirrzaiiz_l1_j2 at hF
 cases hF
 simp (maxSteps:=999999) (disch:=first|exact D (by decide)|exact K (by kernel_rfl)) only [E,EE,↓reduceIte,simprocAttr,rg B36 [2,2,2,1,2,2,1,2,2] 7 false rfl,hr_36_7,R36_aiirrzaiiz_l1.st]
noncomputable def f36_aiirrzaiiz_l1_j3 (k:Nat) (x9:List T39) (x10 x11:Int) (x18:Bool) (h0_ h0__1:Int) (h1_:List T39) (m7 m7_1 m7_2 m7_3 m7_4 m7_5 m7_6 m7_7 m7_8 m7_9:Int) (m7_10:List Int) : Option R36_aiirrzaiiz_l1 :=
 some (R36_aiirrzaiiz_l1.o1 x9 x10 (IntKind.i64.wrap (x11 + (1:Int))) h0_ h0__1 h1_)
theorem f36_aiirrzaiiz_l1_j3_ok (k:Nat) (x9:List T39) (x10 x11:Int) (x18:Bool) (h0_ h0__1:Int) (h1_:List T39) (m7 m7_1 m7_2 m7_3 m7_4 m7_5 m7_6 m7_7 m7_8 m7_9:Int) (m7_10:List Int) (r:R36_aiirrzaiiz_l1) (hF:f36_aiirrzaiiz_l1_j3 k x9 x10 x11 x18 h0_ h0__1 h1_ m7 m7_1 m7_2 m7_3 m7_4 m7_5 m7_6 m7_7 m7_8 m7_9 m7_10 = some r) : EX 36 k (nav B36 [2,2,2,1,2,2,1,2,2]) (⟨25,[(3,.ptr 30000 0),(5,.own 30001),(7,.ptr 7 0),(9,.sl 11 (rowsOf encT39 x9)),(10,.p (.int .i64 x10)),(11,.p (.int .i64 x11)),(18,.p (.bool x18))],[(30000,.box 79 [.p (.int .i64 h0_),.p (.int .u32 h0__1)]),(30001,.row true 11 39 (rowsOf encT39 h1_)),(7,.box 39 [.p (.int .i64 m7),.p (.int .i64 m7_1),.p (.int .u32 m7_2),.p (.int .i64 m7_3),.p (.int .i64 m7_4),.p (.int .i64 m7_5),.p (.int .i64 m7_6),.p (.int .i64 m7_7),.p (.int .i64 m7_8),.p (.int .i64 m7_9),.sl 1 (rowsOf (encI .u8) m7_10)])]⟩ : St) = some r.st := by
 unfold f36_aiirrzaiiz_l1_j3 at hF
 cases hF
 simp (maxSteps:=999999) (disch:=first|exact D (by decide)|exact K (by kernel_rfl)) only [E,EE,↓reduceIte,simprocAttr,rg B36 [2,2,2,1,2,2,1,2,2] 7 false rfl,hr_36_7,R36_aiirrzaiiz_l1.st]
noncomputable def f36_aiirrzaiiz_l1_j1 (k:Nat) (x9:List T39) (x10 x11:Int) (x12:Bool) (h0_ h0__1:Int) (h1_:List T39) : Option R36_aiirrzaiiz_l1 :=
 ifE ((0:Int) ≤ x11) (
  Option.bind (x9[(Int.toNat x11)]?) fun v2 =>
   Option.bind (f37_ai10rz k v2.Source v2.Dest v2.Seq v2.Created v2.Lifetime v2.HopLimit v2.Hops v2.Priority v2.Offset v2.Total v2.Payload) fun o4 =>
    match o4 with
    | .o0 v7 v8 =>
     cond (((v7 == h0_) && (v8 == h0__1)))
      (
       ifE (((List.length h1_) + 1) * 104 ≤ roomy) (
        f36_aiirrzaiiz_l1_j2 k x9 x10 x11 h0_ h0__1 (h1_ ++ ([v2] : List T39))))
      (f36_aiirrzaiiz_l1_j3 k x9 x10 x11 false h0_ h0__1 h1_ v2.Source v2.Dest v2.Seq v2.Created v2.Lifetime v2.HopLimit v2.Hops v2.Priority v2.Offset v2.Total v2.Payload))
theorem f36_aiirrzaiiz_l1_j1_ok (k:Nat) (x9:List T39) (x10 x11:Int) (x12:Bool) (h0_ h0__1:Int) (h1_:List T39) (r:R36_aiirrzaiiz_l1) (hF:f36_aiirrzaiiz_l1_j1 k x9 x10 x11 x12 h0_ h0__1 h1_ = some r) : EX 36 k (nav B36 [2,2,1,2,2,1,2,2]) (⟨25,[(3,.ptr 30000 0),(5,.own 30001),(9,.sl 11 (rowsOf encT39 x9)),(10,.p (.int .i64 x10)),(11,.p (.int .i64 x11)),(12,.p (.bool x12))],[(30000,.box 79 [.p (.int .i64 h0_),.p (.int .u32 h0__1)]),(30001,.row true 11 39 (rowsOf encT39 h1_))]⟩ : St) = some r.st := by
 unfold f36_aiirrzaiiz_l1_j1 at hF
 obtain ⟨h1,hF⟩ := ifE_some.1 hF
 obtain ⟨v2,h3,hF⟩ := bs hF
 obtain ⟨o4,h5,hF⟩ := bs hF
 have hc6 := f37_ai10rz_ok k v2.Source v2.Dest v2.Seq v2.Created v2.Lifetime v2.HopLimit v2.Hops v2.Priority v2.Offset v2.Total v2.Payload _ h5
 cases o4 with
 | o0 v7 v8 =>
  (try dsimp only at hF)
  (try simp only [NM,EE,R37_ai10rz.st] at hc6)
  simp (maxSteps:=999999) (disch:=first|exact D (by decide)|exact K (by kernel_rfl)) only [E,EE,↓reduceIte,simprocAttr,xk B36 [2,2,1,2,2,1,2,2] .sq rfl,xk B36 [1,2,2,1,2,2,1,2,2] (.bk 1) rfl,xk B36 [2,1,2,2,1,2,2,1,2,2] .sq rfl,rg B36 [1,2,1,2,2,1,2,2,1,2,2] 4 false rfl,hr_36_4,indexAddrV,t_24,t_39,encT39_eq,xk B36 [2,2,1,2,2,1,2,2,1,2,2] .sq rfl,rg B36 [1,2,2,1,2,2,1,2,2,1,2,2] 5 true rfl,hr_36_5,callStep,CL,gv,List.contains,t_79,ag_79,t_3,t_22,xk B36 [2,2,2,1,2,2,1,2,2,1,2,2] (.cd 18) rfl,h1,h3,hc6]
  rcases cond_some hF with ⟨h9,hF⟩ | ⟨h9,hF⟩
  ·have q10 : [[.p (.int .i64 v2.Source),.p (.int .i64 v2.Dest),.p (.int .u32 v2.Seq),.p (.int .i64 v2.Created),.p (.int .i64 v2.Lifetime),.p (.int .i64 v2.HopLimit),.p (.int .i64 v2.Hops),.p (.int .i64 v2.Priority),.p (.int .i64 v2.Offset),.p (.int .i64 v2.Total),.sl 1 (rowsOf (encI .u8) v2.Payload)]] = rowsOf encT39 ([v2] : List T39) := rfl
   have q11 : List.map (tell [0,0,0,0,0,0,0,0,0,0,1]) (rowsOf encT39 ([v2] : List T39)) = rowsOf encT39 ([v2] : List T39) := rfl
   obtain ⟨h12,hF⟩ := ifE_some.1 hF
   have hJ := f36_aiirrzaiiz_l1_j2_ok k x9 x10 x11 h0_ h0__1 (h1_ ++ ([v2] : List T39)) _ hF
   simp (maxSteps:=999999) (disch:=first|exact D (by decide)|exact K (by kernel_rfl)) only [E,EE,↓reduceIte,simprocAttr,rg B36 [2,2,2,2,1,2,2,1,2,2,1,2,2] 6 false rfl,hr_36_6,t_39,buildSliceV,fillRows,sm_39,t_24,appendV,content,h1,h3,hc6,h9,q10,q11,h12]
   try simp only [NM,EE] at hJ
   exact hJ
  ·have hJ := f36_aiirrzaiiz_l1_j3_ok k x9 x10 x11 false h0_ h0__1 h1_ v2.Source v2.Dest v2.Seq v2.Created v2.Lifetime v2.HopLimit v2.Hops v2.Priority v2.Offset v2.Total v2.Payload _ hF
   simp (maxSteps:=999999) (disch:=first|exact D (by decide)|exact K (by kernel_rfl)) only [E,EE,↓reduceIte,simprocAttr,xk B36 [3,2,2,2,1,2,2,1,2,2,1,2,2] .sk rfl,h1,h3,hc6,h9]
   try simp only [NM,EE] at hJ
   exact hJ
noncomputable def f36_aiirrzaiiz_l1_b (k:Nat) (x9:List T39) (x10 x11 h0_ h0__1:Int) (h1_:List T39) : Option R36_aiirrzaiiz_l1 :=
 cond ((decide (x11 < x10)))
  (f36_aiirrzaiiz_l1_j1 k x9 x10 x11 true h0_ h0__1 h1_)
  (some (R36_aiirrzaiiz_l1.o2 x9 x10 x11 false h0_ h0__1 h1_))
theorem f36_aiirrzaiiz_l1_b_ok (k:Nat) (x9:List T39) (x10 x11 h0_ h0__1:Int) (h1_:List T39) (r:R36_aiirrzaiiz_l1) (hF:f36_aiirrzaiiz_l1_b k x9 x10 x11 h0_ h0__1 h1_ = some r) : EX 36 k (nav B36 [1,2,2,1,2,2]) (⟨25,[(3,.ptr 30000 0),(5,.own 30001),(9,.sl 11 (rowsOf encT39 x9)),(10,.p (.int .i64 x10)),(11,.p (.int .i64 x11))],[(30000,.box 79 [.p (.int .i64 h0_),.p (.int .u32 h0__1)]),(30001,.row true 11 39 (rowsOf encT39 h1_))]⟩ : St) = some r.st := by
 unfold f36_aiirrzaiiz_l1_b at hF
 simp (maxSteps:=999999) (disch:=first|exact D (by decide)|exact K (by kernel_rfl)) only [E,EE,↓reduceIte,simprocAttr,xk B36 [1,2,2,1,2,2] .sq rfl,rg B36 [1,1,2,2,1,2,2] 3 false rfl,hr_36_3,xk B36 [2,1,2,2,1,2,2] .sq rfl,xk B36 [1,2,1,2,2,1,2,2] (.cd 12) rfl]
 rcases cond_some hF with ⟨h1,hF⟩ | ⟨h1,hF⟩
 ·have hJ := f36_aiirrzaiiz_l1_j1_ok k x9 x10 x11 true h0_ h0__1 h1_ _ hF
  simp (maxSteps:=999999) (disch:=first|exact D (by decide)|exact K (by kernel_rfl)) only [E,EE,↓reduceIte,simprocAttr,xk B36 [2,1,2,1,2,2,1,2,2] .sk rfl,h1]
  try simp only [NM,EE] at hJ
  exact hJ
 ·cases hF
  simp (maxSteps:=999999) (disch:=first|exact D (by decide)|exact K (by kernel_rfl)) only [E,EE,↓reduceIte,simprocAttr,xk B36 [3,1,2,1,2,2,1,2,2] (.ex 0) rfl,R36_aiirrzaiiz_l1.st,h1]
noncomputable def f36_aiirrzaiiz_l1 (k:Nat) : Nat → (List T39) → Int → Int → Int → Int → (List T39) → Option R36_aiirrzaiiz_l1
 | 0,_,_,_,_,_,_ => none
 | n + 1,x9,x10,x11,h0_,h0__1,h1_ => Option.bind (f36_aiirrzaiiz_l1_b k x9 x10 x11 h0_ h0__1 h1_) fun o =>
  match o with
  | .o0 y y_1 y_2 y_3 y_4 y_5 => f36_aiirrzaiiz_l1 k n y y_1 y_2 y_3 y_4 y_5
  | .o1 y y_1 y_2 y_3 y_4 y_5 => f36_aiirrzaiiz_l1 k n y y_1 y_2 y_3 y_4 y_5
  | .o2 y y_1 y_2 y_3 y_4 y_5 y_6 => some (.o2 y y_1 y_2 y_3 y_4 y_5 y_6)
theorem f36_aiirrzaiiz_l1_ok (k n:Nat) : ∀ (x9:List T39) (x10 x11 h0_ h0__1:Int) (h1_:List T39) (r:R36_aiirrzaiiz_l1) (hF:f36_aiirrzaiiz_l1 k n x9 x10 x11 h0_ h0__1 h1_ = some r) (σ:St) (hσ:headR (hints.head 36 3) (hints.canon 36 3) σ = some (⟨25,[(3,.ptr 30000 0),(5,.own 30001),(9,.sl 11 (rowsOf encT39 x9)),(10,.p (.int .i64 x10)),(11,.p (.int .i64 x11))],[(30000,.box 79 [.p (.int .i64 h0_),.p (.int .u32 h0__1)]),(30001,.row true 11 39 (rowsOf encT39 h1_))]⟩ : St)),LP 36 k (nav B36 [1,2,2,1,2,2]) n σ = some r.st := by
 induction n with
 | zero => intro x9 x10 x11 h0_ h0__1 h1_ r hF; cases hF
 | succ n ih =>
  intro x9 x10 x11 h0_ h0__1 h1_ r hF σ hσ
  rw [f36_aiirrzaiiz_l1] at hF
  obtain ⟨o,h,hF⟩ := Option.bind_eq_some_iff.1 hF
  have hB := f36_aiirrzaiiz_l1_b_ok k x9 x10 x11 h0_ h0__1 h1_ o h
  unfold LP at ih ⊢
  unfold EX at hB
  rw [loopK_succ,show firstReg (nav B36 [1,2,2,1,2,2]) = 3 from rfl,hσ,headK_some,hB]
  cases o with
  | o0 y y_1 y_2 y_3 y_4 y_5 =>
   refine ih y y_1 y_2 y_3 y_4 y_5 r hF _ ?_
   simp (maxSteps:=999999) (disch:=first|exact D (by decide)|exact K (by kernel_rfl)) only [E,EE,↓reduceIte,simprocAttr,hh_36_3,hc_36_3]
  | o1 y y_1 y_2 y_3 y_4 y_5 =>
   refine ih y y_1 y_2 y_3 y_4 y_5 r hF _ ?_
   simp (maxSteps:=999999) (disch:=first|exact D (by decide)|exact K (by kernel_rfl)) only [E,EE,↓reduceIte,simprocAttr,hh_36_3,hc_36_3]
  | o2 y y_1 y_2 y_3 y_4 y_5 y_6 => cases hF; rfl
noncomputable def f36_aiirrzaiiz_j2 (k:Nat) (x9:List T39) (x10 x11:Int) (x12:Bool) (h0_ h0__1:Int) (h1_:List T39) : Option R36_aiirrzaiiz :=
 some (R36_aiirrzaiiz.o0 h1_)
theorem f36_aiirrzaiiz_j2_ok (k:Nat) (x9:List T39) (x10 x11:Int) (x12:Bool) (h0_ h0__1:Int) (h1_:List T39) (r:R36_aiirrzaiiz) (hF:f36_aiirrzaiiz_j2 k x9 x10 x11 x12 h0_ h0__1 h1_ = some r) : finK Try.prog Try.f36 0 (EX 36 k (nav B36 [2,2,2]) (⟨25,[(3,.ptr 30000 0),(5,.own 30001),(9,.sl 11 (rowsOf encT39 x9)),(10,.p (.int .i64 x10)),(11,.p (.int .i64 x11)),(12,.p (.bool x12))],[(30000,.box 79 [.p (.int .i64 h0_),.p (.int .u32 h0__1)]),(30001,.row true 11 39 (rowsOf encT39 h1_))]⟩ : St)) = some r.st := by
 unfold f36_aiirrzaiiz_j2 at hF
 cases hF
 simp (maxSteps:=999999) (disch:=first|exact D (by decide)|exact K (by kernel_rfl)) only [E,EE,↓reduceIte,simprocAttr,xk B36 [2,2,2] .sq rfl,rg B36 [1,2,2,2] 8 false rfl,hr_36_8,xk B36 [2,2,2,2] .rt rfl,finK_norm,finK_ret,fin36,R36_aiirrzaiiz.st]
noncomputable def f36_aiirrzaiiz_e (k:Nat) (a0 a0_1:Int) (a0_2:List T65) (a0_3:List T39) (a1 a1_1:Int) : Option R36_aiirrzaiiz :=
 Option.bind (f36_aiirrzaiiz_l1 k k a0_3 ((List.length a0_3) : Int) 0 a1 a1_1 []) fun o1 =>
  match o1 with
  | .o0 _ _ _ _ _ _ =>
   none
  | .o1 _ _ _ _ _ _ =>
   none
  | .o2 v4 v5 v6 v7 v8 v9 v10 =>
   f36_aiirrzaiiz_j2 k v4 v5 v6 v7 v8 v9 v10
theorem f36_aiirrzaiiz_e_ok (k:Nat) (a0 a0_1:Int) (a0_2:List T65) (a0_3:List T39) (a1 a1_1:Int) (r:R36_aiirrzaiiz) (hF:f36_aiirrzaiiz_e k a0 a0_1 a0_2 a0_3 a1 a1_1 = some r) : finK Try.prog Try.f36 0 (EX 36 k (nav B36 []) (⟨25,[(0,.agg [.p (.int .i64 a0),.p (.int .u32 a0_1),.sl 4 (rowsOf encT65 a0_2),.sl 11 (rowsOf encT39 a0_3)]),(1,.agg [.p (.int .i64 a1),.p (.int .u32 a1_1)])],[]⟩ : St)) = some r.st := by
 unfold f36_aiirrzaiiz_e at hF
 obtain ⟨o1,h2,hF⟩ := bs hF
 have hc3 := f36_aiirrzaiiz_l1_ok k k a0_3 ((List.length a0_3) : Int) 0 a1 a1_1 [] _ h2
 simp (maxSteps:=999999) (disch:=first|exact D (by decide)|exact K (by kernel_rfl)) only [E,EE,↓reduceIte,simprocAttr,xk B36 [] .sq rfl,rg B36 [1] 0 false rfl,hr_36_0,xk B36 [2] .sq rfl,rg B36 [1,2] 1 false rfl,hr_36_1,xk B36 [2,2] .sq rfl,xk B36 [1,2,2] .sq rfl,rg B36 [1,1,2,2] 2 false rfl,hr_36_2,fieldAddrV,t_26,t_24,xk B36 [2,1,2,2] (.bk 0) rfl,xk B36 [2,2,1,2,2] .lp rfl,hh_36_3,hc_36_3]
 (try simp only [NM,EE] at hc3)
 rw [hc3 _ (by simp (maxSteps:=999999) (disch:=first|exact D (by decide)|exact K (by kernel_rfl)) only [E,EE,↓reduceIte,simprocAttr,hh_36_3,hc_36_3])]
 clear hc3
 cases o1 with
 | o0 _ _ _ _ _ _ =>
  (try dsimp only at hF)
  cases hF
 | o1 _ _ _ _ _ _ =>
  (try dsimp only at hF)
  cases hF
 | o2 v4 v5 v6 v7 v8 v9 v10 =>
  (try dsimp only at hF)
  have hJ := f36_aiirrzaiiz_j2_ok k v4 v5 v6 v7 v8 v9 v10 _ hF
  simp (maxSteps:=999999) (disch:=first|exact D (by decide)|exact K (by kernel_rfl)) only [E,EE,↓reduceIte,simprocAttr,R36_aiirrzaiiz_l1.st]
  try simp only [NM,EE] at hJ
  exact hJ
noncomputable def f36_aiirrzaiiz (k:Nat) (a0 a0_1:Int) (a0_2:List T65) (a0_3:List T39) (a1 a1_1:Int) : Option R36_aiirrzaiiz := match k with | 0 => none | k + 1 => f36_aiirrzaiiz_e k a0 a0_1 a0_2 a0_3 a1 a1_1
theorem f36_aiirrzaiiz_ok (k:Nat) (a0 a0_1:Int) (a0_2:List T65) (a0_3:List T39) (a1 a1_1:Int) (r:R36_aiirrzaiiz) (hF:f36_aiirrzaiiz k a0 a0_1 a0_2 a0_3 a1 a1_1 = some r) : CV k 36 [.agg [.p (.int .i64 a0),.p (.int .u32 a0_1),.sl 4 (rowsOf encT65 a0_2),.sl 11 (rowsOf encT39 a0_3)],.agg [.p (.int .i64 a1),.p (.int .u32 a1_1)]] [] = some r.st := by
 cases k with
 | zero => cases hF
 | succ k =>
  unfold CV
  rw [ev_call (F := Try.f36) (c := (nav B36 [])) rfl Try.func36 rfl rfl rfl rfl]
  exact f36_aiirrzaiiz_e_ok k a0 a0_1 a0_2 a0_3 a1 a1_1 r hF
-- f38_rr: f38 slices.Equal[[]byte,byte]
inductive R38_rr where
 | o0 (y:Bool)
noncomputable def R38_rr.st : R38_rr → V × List O × List O
 | .o0 y => (.p (.bool y),[],[])
inductive R38_rr_l2 where
 | o0 (y:Bool)
 | o1 (y y_1:List Int) (y_2 y_3:Int)
 | o2 (y y_1:List Int) (y_2 y_3:Int) (y_4:Bool)
noncomputable def R38_rr_l2.st : R38_rr_l2 → Out × St
 | .o0 y => (.ret,(⟨26,[(4,.p (.bool y))],[]⟩ : St))
 | .o1 y y_1 y_2 y_3 => (.norm,(⟨26,[(0,.sl 1 (rowsOf (encI .u8) y)),(1,.sl 1 (rowsOf (encI .u8) y_1)),(12,.p (.int .i64 y_2)),(13,.p (.int .i64 y_3))],[]⟩ : St))
 | .o2 y y_1 y_2 y_3 y_4 => (.exit 0,(⟨26,[(0,.sl 1 (rowsOf (encI .u8) y)),(1,.sl 1 (rowsOf (encI .u8) y_1)),(12,.p (.int .i64 y_2)),(13,.p (.int .i64 y_3)),(14,.p (.bool y_4))],[]⟩ : St))
noncomputable def f38_rr_l2_j2 (k:Nat) (x0 x1:List Int) (x12 x13:Int) (x24:Bool) : Option R38_rr_l2 :=
 some (R38_rr_l2.o1 x0 x1 x12 (IntKind.i64.wrap (x13 + (1:Int))))
theorem f38_rr_l2_j2_ok (k:Nat) (x0 x1:List Int) (x12 x13:Int) (x24:Bool) (r:R38_rr_l2) (hF:f38_rr_l2_j2 k x0 x1 x12 x13 x24 = some r) : EX 38 k (nav B38 [2,2,2,1,2,2,1,2,2]) (⟨26,[(0,.sl 1 (rowsOf (encI .u8) x0)),(1,.sl 1 (rowsOf (encI .u8) x1)),(12,.p (.int .i64 x12)),(13,.p (.int .i64 x13)),(24,.p (.bool x24))],[]⟩ : St) = some r.st := by
 unfold f38_rr_l2_j2 at hF
 cases hF
 simp (maxSteps:=999999) (disch:=first|exact D (by decide)|exact K (by kernel_rfl)) only [E,EE,↓reduceIte,simprocAttr,rg B38 [2,2,2,1,2,2,1,2,2] 8 false rfl,hr_38_8,R38_rr_l2.st]
noncomputable def f38_rr_l2_j1 (k:Nat) (x0 x1:List Int) (x12 x13:Int) (x14:Bool) : Option R38_rr_l2 :=
 ifE ((0:Int) ≤ x13) (
  Option.bind (x0[(Int.toNat x13)]?) fun v2 =>
   Option.bind (x1[(Int.toNat x13)]?) fun v4 =>
    cond ((v2 != v4))
     (some (R38_rr_l2.o0 false))
     (f38_rr_l2_j2 k x0 x1 x12 x13 false))
theorem f38_rr_l2_j1_ok (k:Nat) (x0 x1:List Int) (x12 x13:Int) (x14:Bool) (r:R38_rr_l2) (hF:f38_rr_l2_j1 k x0 x1 x12 x13 x14 = some r) : EX 38 k (nav B38 [2,2,1,2,2,1,2,2]) (⟨26,[(0,.sl 1 (rowsOf (encI .u8) x0)),(1,.sl 1 (rowsOf (encI .u8) x1)),(12,.p (.int .i64 x12)),(13,.p (.int .i64 x13)),(14,.p (.bool x14))],[]⟩ : St) = some r.st := by
 unfold f38_rr_l2_j1 at hF
 obtain ⟨h1,hF⟩ := ifE_some.1 hF
 obtain ⟨v2,h3,hF⟩ := bs hF
 obtain ⟨v4,h5,hF⟩ := bs hF
 simp (maxSteps:=999999) (disch:=first|exact D (by decide)|exact K (by kernel_rfl)) only [E,EE,↓reduceIte,simprocAttr,xk B38 [2,2,1,2,2,1,2,2] .sq rfl,xk B38 [1,2,2,1,2,2,1,2,2] (.bk 1) rfl,xk B38 [2,1,2,2,1,2,2,1,2,2] .sq rfl,rg B38 [1,2,1,2,2,1,2,2,1,2,2] 5 false rfl,hr_38_5,xk B38 [2,2,1,2,2,1,2,2,1,2,2] .sq rfl,rg B38 [1,2,2,1,2,2,1,2,2,1,2,2] 6 true rfl,hr_38_6,indexAddrV,t_29,t_5,encI_eq,xk B38 [2,2,2,1,2,2,1,2,2,1,2,2] (.cd 24) rfl,h1,h3,h5]
 rcases cond_some hF with ⟨h6,hF⟩ | ⟨h6,hF⟩
 ·cases hF
  simp (maxSteps:=999999) (disch:=first|exact D (by decide)|exact K (by kernel_rfl)) only [E,EE,↓reduceIte,simprocAttr,xk B38 [2,2,2,2,1,2,2,1,2,2,1,2,2] .sq rfl,rg B38 [1,2,2,2,2,1,2,2,1,2,2,1,2,2] 7 false rfl,hr_38_7,xk B38 [2,2,2,2,2,1,2,2,1,2,2,1,2,2] .rt rfl,R38_rr_l2.st,h1,h3,h5,h6]
 ·have hJ := f38_rr_l2_j2_ok k x0 x1 x12 x13 false _ hF
  simp (maxSteps:=999999) (disch:=first|exact D (by decide)|exact K (by kernel_rfl)) only [E,EE,↓reduceIte,simprocAttr,xk B38 [3,2,2,2,1,2,2,1,2,2,1,2,2] .sk rfl,h1,h3,h5,h6]
  try simp only [NM,EE] at hJ
  exact hJ
noncomputable def f38_rr_l2_b (k:Nat) (x0 x1:List Int) (x12 x13:Int) : Option R38_rr_l2 :=
 cond ((decide (x13 < x12)))
  (f38_rr_l2_j1 k x0 x1 x12 x13 true)
  (some (R38_rr_l2.o2 x0 x1 x12 x13 false))
theorem f38_rr_l2_b_ok (k:Nat) (x0 x1:List Int) (x12 x13:Int) (r:R38_rr_l2) (hF:f38_rr_l2_b k x0 x1 x12 x13 = some r) : EX 38 k (nav B38 [1,2,2,1,2,2]) (⟨26,[(0,.sl 1 (rowsOf (encI .u8) x0)),(1,.sl 1 (rowsOf (encI .u8) x1)),(12,.p (.int .i64 x12)),(13,.p (.int .i64 x13))],[]⟩ : St) = some r.st := by
 unfold f38_rr_l2_b at hF
 simp (maxSteps:=999999) (disch:=first|exact D (by decide)|exact K (by kernel_rfl)) only [E,EE,↓reduceIte,simprocAttr,xk B38 [1,2,2,1,2,2] .sq rfl,rg B38 [1,1,2,2,1,2,2] 4 false rfl,hr_38_4,xk B38 [2,1,2,2,1,2,2] .sq rfl,xk B38 [1,2,1,2,2,1,2,2] (.cd 14) rfl]
 rcases cond_some hF with ⟨h1,hF⟩ | ⟨h1,hF⟩
 ·have hJ := f38_rr_l2_j1_ok k x0 x1 x12 x13 true _ hF
  simp (maxSteps:=999999) (disch:=first|exact D (by decide)|exact K (by kernel_rfl)) only [E,EE,↓reduceIte,simprocAttr,xk B38 [2,1,2,1,2,2,1,2,2] .sk rfl,h1]
  try simp only [NM,EE] at hJ
  exact hJ
 ·cases hF
  simp (maxSteps:=999999) (disch:=first|exact D (by decide)|exact K (by kernel_rfl)) only [E,EE,↓reduceIte,simprocAttr,xk B38 [3,1,2,1,2,2,1,2,2] (.ex 0) rfl,R38_rr_l2.st,h1]
noncomputable def f38_rr_l2 (k:Nat) : Nat → (List Int) → (List Int) → Int → Int → Option R38_rr_l2
 | 0,_,_,_,_ => none
 | n + 1,x0,x1,x12,x13 => Option.bind (f38_rr_l2_b k x0 x1 x12 x13) fun o =>
  match o with
  | .o0 y => some (.o0 y)
  | .o1 y y_1 y_2 y_3 => f38_rr_l2 k n y y_1 y_2 y_3
  | .o2 y y_1 y_2 y_3 y_4 => some (.o2 y y_1 y_2 y_3 y_4)
theorem f38_rr_l2_ok (k n:Nat) : ∀ (x0 x1:List Int) (x12 x13:Int) (r:R38_rr_l2) (hF:f38_rr_l2 k n x0 x1 x12 x13 = some r) (σ:St) (hσ:headR (hints.head 38 4) (hints.canon 38 4) σ = some (⟨26,[(0,.sl 1 (rowsOf (encI .u8) x0)),(1,.sl 1 (rowsOf (encI .u8) x1)),(12,.p (.int .i64 x12)),(13,.p (.int .i64 x13))],[]⟩ : St)),LP 38 k (nav B38 [1,2,2,1,2,2]) n σ = some r.st := by
 induction n with
 | zero => intro x0 x1 x12 x13 r hF; cases hF
 | succ n ih =>
  intro x0 x1 x12 x13 r hF σ hσ
  rw [f38_rr_l2] at hF
  obtain ⟨o,h,hF⟩ := Option.bind_eq_some_iff.1 hF
  have hB := f38_rr_l2_b_ok k x0 x1 x12 x13 o h
  unfold LP at ih ⊢
  unfold EX at hB
  rw [loopK_succ,show firstReg (nav B38 [1,2,2,1,2,2]) = 4 from rfl,hσ,headK_some,hB]
  cases o with
  | o0 y => cases hF; rfl
  | o1 y y_1 y_2 y_3 =>
   refine ih y y_1 y_2 y_3 r hF _ ?_
   simp (maxSteps:=999999) (disch:=first|exact D (by decide)|exact K (by kernel_rfl)) only [E,EE,↓reduceIte,simprocAttr,hh_38_4,hc_38_4]
  | o2 y y_1 y_2 y_3 y_4 => cases hF; rfl
noncomputable def f38_rr_j3 (k:Nat) (x0 x1:List Int) (x12 x13:Int) (x14:Bool) : Option R38_rr :=
 some (R38_rr.o0 true)
theorem f38_rr_j3_ok (k:Nat) (x0 x1:List Int) (x12 x13:Int) (x14:Bool) (r:R38_rr) (hF:f38_rr_j3 k x0 x1 x12 x13 x14 = some r) : finK Try.prog Try.f38 0 (EX 38 k (nav B38 [2,2,2]) (⟨26,[(0,.sl 1 (rowsOf (encI .u8) x0)),(1,.sl 1 (rowsOf (encI .u8) x1)),(12,.p (.int .i64 x12)),(13,.p (.int .i64 x13)),(14,.p (.bool x14))],[]⟩ : St)) = some r.st := by
 unfold f38_rr_j3 at hF
 cases hF
 simp (maxSteps:=999999) (disch:=first|exact D (by decide)|exact K (by kernel_rfl)) only [E,EE,↓reduceIte,simprocAttr,xk B38 [2,2,2] .sq rfl,rg B38 [1,2,2,2] 9 false rfl,hr_38_9,xk B38 [2,2,2,2] .rt rfl,finK_norm,finK_ret,fin38,R38_rr.st]
noncomputable def f38_rr_j1 (k:Nat) (x0 x1:List Int) (x10:Bool) : Option R38_rr :=
 Option.bind (f38_rr_l2 k k x0 x1 ((List.length x0) : Int) 0) fun o1 =>
  match o1 with
  | .o0 v4 =>
   some (R38_rr.o0 v4)
  | .o1 _ _ _ _ =>
   none
  | .o2 v5 v6 v7 v8 v9 =>
   f38_rr_j3 k v5 v6 v7 v8 v9
theorem f38_rr_j1_ok (k:Nat) (x0 x1:List Int) (x10:Bool) (r:R38_rr) (hF:f38_rr_j1 k x0 x1 x10 = some r) : finK Try.prog Try.f38 0 (EX 38 k (nav B38 [2,2]) (⟨26,[(0,.sl 1 (rowsOf (encI .u8) x0)),(1,.sl 1 (rowsOf (encI .u8) x1)),(10,.p (.bool x10))],[]⟩ : St)) = some r.st := by
 unfold f38_rr_j1 at hF
 obtain ⟨o1,h2,hF⟩ := bs hF
 have hc3 := f38_rr_l2_ok k k x0 x1 ((List.length x0) : Int) 0 _ h2
 simp (maxSteps:=999999) (disch:=first|exact D (by decide)|exact K (by kernel_rfl)) only [E,EE,↓reduceIte,simprocAttr,xk B38 [2,2] .sq rfl,xk B38 [1,2,2] .sq rfl,rg B38 [1,1,2,2] 3 false rfl,hr_38_3,t_29,xk B38 [2,1,2,2] (.bk 0) rfl,xk B38 [2,2,1,2,2] .lp rfl,hh_38_4,hc_38_4]
 (try simp only [NM,EE] at hc3)
 rw [hc3 _ (by simp (maxSteps:=999999) (disch:=first|exact D (by decide)|exact K (by kernel_rfl)) only [E,EE,↓reduceIte,simprocAttr,hh_38_4,hc_38_4])]
 clear hc3
 cases o1 with
 | o0 v4 =>
  (try dsimp only at hF)
  cases hF
  simp (maxSteps:=999999) (disch:=first|exact D (by decide)|exact K (by kernel_rfl)) only [E,EE,↓reduceIte,simprocAttr,R38_rr_l2.st,finK_norm,finK_ret,fin38,R38_rr.st]
 | o1 _ _ _ _ =>
  (try dsimp only at hF)
  cases hF
 | o2 v5 v6 v7 v8 v9 =>
  (try dsimp only at hF)
  have hJ := f38_rr_j3_ok k v5 v6 v7 v8 v9 _ hF
  simp (maxSteps:=999999) (disch:=first|exact D (by decide)|exact K (by kernel_rfl)) only [E,EE,↓reduceIte,simprocAttr,R38_rr_l2.st]
  try simp only [NM,EE] at hJ
  exact hJ
noncomputable def f38_rr_e (k:Nat) (a0 a1:List Int) : Option R38_rr :=
 cond ((((List.length a0) : Int) != ((List.length a1) : Int)))
  (some (R38_rr.o0 false))
  (f38_rr_j1 k a0 a1 false)
theorem f38_rr_e_ok (k:Nat) (a0 a1:List Int) (r:R38_rr) (hF:f38_rr_e k a0 a1 = some r) : finK Try.prog Try.f38 0 (EX 38 k (nav B38 []) (⟨26,[(0,.sl 1 (rowsOf (encI .u8) a0)),(1,.sl 1 (rowsOf (encI .u8) a1))],[]⟩ : St)) = some r.st := by
 unfold f38_rr_e at hF
 simp (maxSteps:=999999) (disch:=first|exact D (by decide)|exact K (by kernel_rfl)) only [E,EE,↓reduceIte,simprocAttr,xk B38 [] .sq rfl,rg B38 [1] 0 false rfl,hr_38_0,xk B38 [2] .sq rfl,xk B38 [1,2] .sq rfl,rg B38 [1,1,2] 1 false rfl,hr_38_1,t_29,xk B38 [2,1,2] (.cd 10) rfl]
 rcases cond_some hF with ⟨h1,hF⟩ | ⟨h1,hF⟩
 ·cases hF
  simp (maxSteps:=999999) (disch:=first|exact D (by decide)|exact K (by kernel_rfl)) only [E,EE,↓reduceIte,simprocAttr,xk B38 [2,2,1,2] .sq rfl,rg B38 [1,2,2,1,2] 2 false rfl,hr_38_2,xk B38 [2,2,2,1,2] .rt rfl,finK_norm,finK_ret,fin38,R38_rr.st,h1]
 ·have hJ := f38_rr_j1_ok k a0 a1 false _ hF
  simp (maxSteps:=999999) (disch:=first|exact D (by decide)|exact K (by kernel_rfl)) only [E,EE,↓reduceIte,simprocAttr,xk B38 [3,2,1,2] .sk rfl,h1]
  try simp only [NM,EE] at hJ
  exact hJ
noncomputable def f38_rr (k:Nat) (a0 a1:List Int) : Option R38_rr := match k with | 0 => none | k + 1 => f38_rr_e k a0 a1
theorem f38_rr_ok (k:Nat) (a0 a1:List Int) (r:R38_rr) (hF:f38_rr k a0 a1 = some r) : CV k 38 [.sl 1 (rowsOf (encI .u8) a0),.sl 1 (rowsOf (encI .u8) a1)] [] = some r.st := by
 cases k with
 | zero => cases hF
 | succ k =>
  unfold CV
  rw [ev_call (F := Try.f38) (c := (nav B38 [])) rfl Try.func38 rfl rfl rfl rfl]
  exact f38_rr_e_ok k a0 a1 r hF
-- f20_rr: f20 heliograph/octet.Equal
inductive R20_rr where
 | o0 (y:Bool)
noncomputable def R20_rr.st : R20_rr → V × List O × List O
 | .o0 y => (.p (.bool y),[],[])
noncomputable def f20_rr_e (k:Nat) (a0 a1:List Int) : Option R20_rr :=
 Option.bind (f38_rr k a0 a1) fun o1 =>
  match o1 with
  | .o0 v4 =>
   some (R20_rr.o0 v4)
theorem f20_rr_e_ok (k:Nat) (a0 a1:List Int) (r:R20_rr) (hF:f20_rr_e k a0 a1 = some r) : finK Try.prog Try.f20 0 (EX 20 k (nav B20 []) (⟨8,[(0,.sl 1 (rowsOf (encI .u8) a0)),(1,.sl 1 (rowsOf (encI .u8) a1))],[]⟩ : St)) = some r.st := by
 unfold f20_rr_e at hF
 obtain ⟨o1,h2,hF⟩ := bs hF
 have hc3 := f38_rr_ok k a0 a1 _ h2
 cases o1 with
 | o0 v4 =>
  (try dsimp only at hF)
  (try simp only [NM,EE,R38_rr.st] at hc3)
  cases hF
  simp (maxSteps:=999999) (disch:=first|exact D (by decide)|exact K (by kernel_rfl)) only [E,EE,↓reduceIte,simprocAttr,xk B20 [] .sq rfl,rg B20 [1] 0 false rfl,hr_20_0,xk B20 [2] .sq rfl,rg B20 [1,2] 1 false rfl,hr_20_1,callStep,CL,gv,List.contains,xk B20 [2,2] .rt rfl,finK_norm,finK_ret,fin20,R20_rr.st,hc3]
noncomputable def f20_rr (k:Nat) (a0 a1:List Int) : Option R20_rr := match k with | 0 => none | k + 1 => f20_rr_e k a0 a1
theorem f20_rr_ok (k:Nat) (a0 a1:List Int) (r:R20_rr) (hF:f20_rr k a0 a1 = some r) : CV k 20 [.sl 1 (rowsOf (encI .u8) a0),.sl 1 (rowsOf (encI .u8) a1)] [] = some r.st := by
 cases k with
 | zero => cases hF
 | succ k =>
  unfold CV
  rw [ev_call (F := Try.f20) (c := (nav B20 [])) rfl Try.func20 rfl rfl rfl rfl]
  exact f20_rr_e_ok k a0 a1 r hF
-- f66_ai10rz: f66 heliograph/bundle.same$1
inductive R66_ai10rz where
 | o0 (y y_1 y_2 y_3 y_4 y_5 y_6 y_7 y_8 y_9:Int)
noncomputable def R66_ai10rz.st : R66_ai10rz → V × List O × List O
 | .o0 y y_1 y_2 y_3 y_4 y_5 y_6 y_7 y_8 y_9 => (.agg [.p (.int .i64 y),.p (.int .i64 y_1),.p (.int .i64 y_2),.p (.int .i64 y_3),.p (.int .i64 y_4),.p (.int .i64 y_5),.p (.int .i64 y_6),.p (.int .i64 y_7),.p (.int .i64 y_8),.p (.int .u32 y_9)],[],[])
noncomputable def f66_ai10rz_e (k:Nat) (a0 a0_1 a0_2 a0_3 a0_4 a0_5 a0_6 a0_7 a0_8 a0_9:Int) (a0_10:List Int) : Option R66_ai10rz :=
 some (R66_ai10rz.o0 a0 a0_1 a0_3 a0_4 a0_5 a0_6 a0_7 a0_8 a0_9 a0_2)
theorem f66_ai10rz_e_ok (k:Nat) (a0 a0_1 a0_2 a0_3 a0_4 a0_5 a0_6 a0_7 a0_8 a0_9:Int) (a0_10:List Int) (r:R66_ai10rz) (hF:f66_ai10rz_e k a0 a0_1 a0_2 a0_3 a0_4 a0_5 a0_6 a0_7 a0_8 a0_9 a0_10 = some r) : finK Try.prog Try.f66 0 (EX 66 k (nav B66 []) (⟨24,[(0,.agg [.p (.int .i64 a0),.p (.int .i64 a0_1),.p (.int .u32 a0_2),.p (.int .i64 a0_3),.p (.int .i64 a0_4),.p (.int .i64 a0_5),.p (.int .i64 a0_6),.p (.int .i64 a0_7),.p (.int .i64 a0_8),.p (.int .i64 a0_9),.sl 1 (rowsOf (encI .u8) a0_10)])],[]⟩ : St)) = some r.st := by
 unfold f66_ai10rz_e at hF
 cases hF
 simp (maxSteps:=999999) (disch:=first|exact D (by decide)|exact K (by kernel_rfl)) only [E,EE,↓reduceIte,simprocAttr,xk B66 [] .sq rfl,rg B66 [1] 0 false rfl,hr_66_0,t_106,xk B66 [2] .sq rfl,rg B66 [1,2] 1 false rfl,hr_66_1,fieldAddrV,t_39,t_3,t_22,bl_106,xk B66 [2,2] .rt rfl,finK_norm,finK_ret,fin66,R66_ai10rz.st]
noncomputable def f66_ai10rz (k:Nat) (a0 a0_1 a0_2 a0_3 a0_4 a0_5 a0_6 a0_7 a0_8 a0_9:Int) (a0_10:List Int) : Option R66_ai10rz := match k with | 0 => none | k + 1 => f66_ai10rz_e k a0 a0_1 a0_2 a0_3 a0_4 a0_5 a0_6 a0_7 a0_8 a0_9 a0_10
theorem f66_ai10rz_ok (k:Nat) (a0 a0_1 a0_2 a0_3 a0_4 a0_5 a0_6 a0_7 a0_8 a0_9:Int) (a0_10:List Int) (r:R66_ai10rz) (hF:f66_ai10rz k a0 a0_1 a0_2 a0_3 a0_4 a0_5 a0_6 a0_7 a0_8 a0_9 a0_10 = some r) : CV k 66 [.agg [.p (.int .i64 a0),.p (.int .i64 a0_1),.p (.int .u32 a0_2),.p (.int .i64 a0_3),.p (.int .i64 a0_4),.p (.int .i64 a0_5),.p (.int .i64 a0_6),.p (.int .i64 a0_7),.p (.int .i64 a0_8),.p (.int .i64 a0_9),.sl 1 (rowsOf (encI .u8) a0_10)]] [] = some r.st := by
 cases k with
 | zero => cases hF
 | succ k =>
  unfold CV
  rw [ev_call (F := Try.f66) (c := (nav B66 [])) rfl Try.func66 rfl rfl rfl rfl]
  exact f66_ai10rz_e_ok k a0 a0_1 a0_2 a0_3 a0_4 a0_5 a0_6 a0_7 a0_8 a0_9 a0_10 r hF
-- f60_ai10rzai10rz: f60 heliograph/bundle.same
inductive R60_ai10rzai10rz where
 | o0 (y:Bool)
noncomputable def R60_ai10rzai10rz.st : R60_ai10rzai10rz → V × List O × List O
 | .o0 y => (.p (.bool y),[],[])
noncomputable def f60_ai10rzai10rz_e (k:Nat) (a0 a0_1 a0_2 a0_3 a0_4 a0_5 a0_6 a0_7 a0_8 a0_9:Int) (a0_10:List Int) (a1 a1_1 a1_2 a1_3 a1_4 a1_5 a1_6 a1_7 a1_8 a1_9:Int) (a1_10:List Int) : Option R60_ai10rzai10rz :=
 Option.bind (f66_ai10rz k a0 a0_1 a0_2 a0_3 a0_4 a0_5 a0_6 a0_7 a0_8 a0_9 a0_10) fun o1 =>
  match o1 with
  | .o0 v4 v5 v6 v7 v8 v9 v10 v11 v12 v13 =>
   Option.bind (f66_ai10rz k a1 a1_1 a1_2 a1_3 a1_4 a1_5 a1_6 a1_7 a1_8 a1_9 a1_10) fun o14 =>
    match o14 with
    | .o0 v17 v18 v19 v20 v21 v22 v23 v24 v25 v26 =>
     some (R60_ai10rzai10rz.o0 (((v4 == v17) && ((v5 == v18) && ((v6 == v19) && ((v7 == v20) && ((v8 == v21) && ((v9 == v22) && ((v10 == v23) && ((v11 == v24) && ((v12 == v25) && (v13 == v26))))))))))))
theorem f60_ai10rzai10rz_e_ok (k:Nat) (a0 a0_1 a0_2 a0_3 a0_4 a0_5 a0_6 a0_7 a0_8 a0_9:Int) (a0_10:List Int) (a1 a1_1 a1_2 a1_3 a1_4 a1_5 a1_6 a1_7 a1_8 a1_9:Int) (a1_10:List Int) (r:R60_ai10rzai10rz) (hF:f60_ai10rzai10rz_e k a0 a0_1 a0_2 a0_3 a0_4 a0_5 a0_6 a0_7 a0_8 a0_9 a0_10 a1 a1_1 a1_2 a1_3 a1_4 a1_5 a1_6 a1_7 a1_8 a1_9 a1_10 = some r) : finK Try.prog Try.f60 0 (EX 60 k (nav B60 []) (⟨13,[(0,.agg [.p (.int .i64 a0),.p (.int .i64 a0_1),.p (.int .u32 a0_2),.p (.int .i64 a0_3),.p (.int .i64 a0_4),.p (.int .i64 a0_5),.p (.int .i64 a0_6),.p (.int .i64 a0_7),.p (.int .i64 a0_8),.p (.int .i64 a0_9),.sl 1 (rowsOf (encI .u8) a0_10)]),(1,.agg [.p (.int .i64 a1),.p (.int .i64 a1_1),.p (.int .u32 a1_2),.p (.int .i64 a1_3),.p (.int .i64 a1_4),.p (.int .i64 a1_5),.p (.int .i64 a1_6),.p (.int .i64 a1_7),.p (.int .i64 a1_8),.p (.int .i64 a1_9),.sl 1 (rowsOf (encI .u8) a1_10)])],[]⟩ : St)) = some r.st := by
 unfold f60_ai10rzai10rz_e at hF
 obtain ⟨o1,h2,hF⟩ := bs hF
 have hc3 := f66_ai10rz_ok k a0 a0_1 a0_2 a0_3 a0_4 a0_5 a0_6 a0_7 a0_8 a0_9 a0_10 _ h2
 cases o1 with
 | o0 v4 v5 v6 v7 v8 v9 v10 v11 v12 v13 =>
  (try dsimp only at hF)
  (try simp only [NM,EE,R66_ai10rz.st] at hc3)
  obtain ⟨o14,h15,hF⟩ := bs hF
  have hc16 := f66_ai10rz_ok k a1 a1_1 a1_2 a1_3 a1_4 a1_5 a1_6 a1_7 a1_8 a1_9 a1_10 _ h15
  cases o14 with
  | o0 v17 v18 v19 v20 v21 v22 v23 v24 v25 v26 =>
   (try dsimp only at hF)
   (try simp only [NM,EE,R66_ai10rz.st] at hc16)
   cases hF
   simp (maxSteps:=999999) (disch:=first|exact D (by decide)|exact K (by kernel_rfl)) only [E,EE,↓reduceIte,simprocAttr,xk B60 [] .sq rfl,rg B60 [1] 0 false rfl,hr_60_0,xk B60 [2] .sq rfl,rg B60 [1,2] 1 false rfl,hr_60_1,xk B60 [2,2] .sq rfl,rg B60 [1,2,2] 2 true rfl,hr_60_2,t_39,callStep,CL,gv,List.contains,t_106,ag_106,t_3,t_22,xk B60 [2,2,2] .rt rfl,finK_norm,finK_ret,fin60,R60_ai10rzai10rz.st,hc3,hc16]
noncomputable def f60_ai10rzai10rz (k:Nat) (a0 a0_1 a0_2 a0_3 a0_4 a0_5 a0_6 a0_7 a0_8 a0_9:Int) (a0_10:List Int) (a1 a1_1 a1_2 a1_3 a1_4 a1_5 a1_6 a1_7 a1_8 a1_9:Int) (a1_10:List Int) : Option R60_ai10rzai10rz := match k with | 0 => none | k + 1 => f60_ai10rzai10rz_e k a0 a0_1 a0_2 a0_3 a0_4 a0_5 a0_6 a0_7 a0_8 a0_9 a0_10 a1 a1_1 a1_2 a1_3 a1_4 a1_5 a1_6 a1_7 a1_8 a1_9 a1_10
theorem f60_ai10rzai10rz_ok (k:Nat) (a0 a0_1 a0_2 a0_3 a0_4 a0_5 a0_6 a0_7 a0_8 a0_9:Int) (a0_10:List Int) (a1 a1_1 a1_2 a1_3 a1_4 a1_5 a1_6 a1_7 a1_8 a1_9:Int) (a1_10:List Int) (r:R60_ai10rzai10rz) (hF:f60_ai10rzai10rz k a0 a0_1 a0_2 a0_3 a0_4 a0_5 a0_6 a0_7 a0_8 a0_9 a0_10 a1 a1_1 a1_2 a1_3 a1_4 a1_5 a1_6 a1_7 a1_8 a1_9 a1_10 = some r) : CV k 60 [.agg [.p (.int .i64 a0),.p (.int .i64 a0_1),.p (.int .u32 a0_2),.p (.int .i64 a0_3),.p (.int .i64 a0_4),.p (.int .i64 a0_5),.p (.int .i64 a0_6),.p (.int .i64 a0_7),.p (.int .i64 a0_8),.p (.int .i64 a0_9),.sl 1 (rowsOf (encI .u8) a0_10)],.agg [.p (.int .i64 a1),.p (.int .i64 a1_1),.p (.int .u32 a1_2),.p (.int .i64 a1_3),.p (.int .i64 a1_4),.p (.int .i64 a1_5),.p (.int .i64 a1_6),.p (.int .i64 a1_7),.p (.int .i64 a1_8),.p (.int .i64 a1_9),.sl 1 (rowsOf (encI .u8) a1_10)]] [] = some r.st := by
 cases k with
 | zero => cases hF
 | succ k =>
  unfold CV
  rw [ev_call (F := Try.f60) (c := (nav B60 [])) rfl Try.func60 rfl rfl rfl rfl]
  exact f60_ai10rzai10rz_e_ok k a0 a0_1 a0_2 a0_3 a0_4 a0_5 a0_6 a0_7 a0_8 a0_9 a0_10 a1 a1_1 a1_2 a1_3 a1_4 a1_5 a1_6 a1_7 a1_8 a1_9 a1_10 r hF
-- f41_ai10rzai10rz: f41 heliograph/bundle.Same
inductive R41_ai10rzai10rz where
 | o0 (y:Bool)
noncomputable def R41_ai10rzai10rz.st : R41_ai10rzai10rz → V × List O × List O
 | .o0 y => (.p (.bool y),[],[])
noncomputable def f41_ai10rzai10rz_e (k:Nat) (a0 a0_1 a0_2 a0_3 a0_4 a0_5 a0_6 a0_7 a0_8 a0_9:Int) (a0_10:List Int) (a1 a1_1 a1_2 a1_3 a1_4 a1_5 a1_6 a1_7 a1_8 a1_9:Int) (a1_10:List Int) : Option R41_ai10rzai10rz :=
 Option.bind (f20_rr k a0_10 a1_10) fun o1 =>
  match o1 with
  | .o0 v4 =>
   cond (v4)
    (
     Option.bind (f60_ai10rzai10rz k a0 a0_1 a0_2 a0_3 a0_4 a0_5 a0_6 a0_7 a0_8 a0_9 [] a1 a1_1 a1_2 a1_3 a1_4 a1_5 a1_6 a1_7 a1_8 a1_9 []) fun o6 =>
      match o6 with
      | .o0 v9 =>
       some (R41_ai10rzai10rz.o0 v9))
    (some (R41_ai10rzai10rz.o0 false))
theorem f41_ai10rzai10rz_e_ok (k:Nat) (a0 a0_1 a0_2 a0_3 a0_4 a0_5 a0_6 a0_7 a0_8 a0_9:Int) (a0_10:List Int) (a1 a1_1 a1_2 a1_3 a1_4 a1_5 a1_6 a1_7 a1_8 a1_9:Int) (a1_10:List Int) (r:R41_ai10rzai10rz) (hF:f41_ai10rzai10rz_e k a0 a0_1 a0_2 a0_3 a0_4 a0_5 a0_6 a0_7 a0_8 a0_9 a0_10 a1 a1_1 a1_2 a1_3 a1_4 a1_5 a1_6 a1_7 a1_8 a1_9 a1_10 = some r) : finK Try.prog Try.f41 0 (EX 41 k (nav B41 []) (⟨21,[(0,.agg [.p (.int .i64 a0),.p (.int .i64 a0_1),.p (.int .u32 a0_2),.p (.int .i64 a0_3),.p (.int .i64 a0_4),.p (.int .i64 a0_5),.p (.int .i64 a0_6),.p (.int .i64 a0_7),.p (.int .i64 a0_8),.p (.int .i64 a0_9),.sl 1 (rowsOf (encI .u8) a0_10)]),(1,.agg [.p (.int .i64 a1),.p (.int .i64 a1_1),.p (.int .u32 a1_2),.p (.int .i64 a1_3),.p (.int .i64 a1_4),.p (.int .i64 a1_5),.p (.int .i64 a1_6),.p (.int .i64 a1_7),.p (.int .i64 a1_8),.p (.int .i64 a1_9),.sl 1 (rowsOf (encI .u8) a1_10)])],[]⟩ : St)) = some r.st := by
 unfold f41_ai10rzai10rz_e at hF
 obtain ⟨o1,h2,hF⟩ := bs hF
 have hc3 := f20_rr_ok k a0_10 a1_10 _ h2
 cases o1 with
 | o0 v4 =>
  (try dsimp only at hF)
  (try simp only [NM,EE,R20_rr.st] at hc3)
  simp (maxSteps:=999999) (disch:=first|exact D (by decide)|exact K (by kernel_rfl)) only [E,EE,↓reduceIte,simprocAttr,xk B41 [] .sq rfl,rg B41 [1] 0 false rfl,hr_41_0,xk B41 [2] .sq rfl,rg B41 [1,2] 1 true rfl,hr_41_1,t_39,xk B41 [2,2] .sq rfl,rg B41 [1,2,2] 2 false rfl,hr_41_2,fieldAddrV,t_29,xk B41 [2,2,2] .sq rfl,rg B41 [1,2,2,2] 3 false rfl,hr_41_3,callStep,CL,gv,List.contains,hc3]
  rcases cond_some hF with ⟨h5,hF⟩ | ⟨h5,hF⟩
  ·obtain ⟨o6,h7,hF⟩ := bs hF
   have hc8 := f60_ai10rzai10rz_ok k a0 a0_1 a0_2 a0_3 a0_4 a0_5 a0_6 a0_7 a0_8 a0_9 [] a1 a1_1 a1_2 a1_3 a1_4 a1_5 a1_6 a1_7 a1_8 a1_9 [] _ h7
   cases o6 with
   | o0 v9 =>
    (try dsimp only at hF)
    (try simp only [NM,EE,R60_ai10rzai10rz.st] at hc8)
    cases hF
    simp (maxSteps:=999999) (disch:=first|exact D (by decide)|exact K (by kernel_rfl)) only [E,EE,↓reduceIte,simprocAttr,t_39,callStep,CL,gv,List.contains,xk B41 [2,2,2,2] .rt rfl,finK_norm,finK_ret,fin41,R41_ai10rzai10rz.st,hc3,h5,hc8]
  ·cases hF
   simp (maxSteps:=999999) (disch:=first|exact D (by decide)|exact K (by kernel_rfl)) only [E,EE,↓reduceIte,simprocAttr,xk B41 [2,2,2,2] .rt rfl,finK_norm,finK_ret,fin41,R41_ai10rzai10rz.st,hc3,h5]
noncomputable def f41_ai10rzai10rz (k:Nat) (a0 a0_1 a0_2 a0_3 a0_4 a0_5 a0_6 a0_7 a0_8 a0_9:Int) (a0_10:List Int) (a1 a1_1 a1_2 a1_3 a1_4 a1_5 a1_6 a1_7 a1_8 a1_9:Int) (a1_10:List Int) : Option R41_ai10rzai10rz := match k with | 0 => none | k + 1 => f41_ai10rzai10rz_e k a0 a0_1 a0_2 a0_3 a0_4 a0_5 a0_6 a0_7 a0_8 a0_9 a0_10 a1 a1_1 a1_2 a1_3 a1_4 a1_5 a1_6 a1_7 a1_8 a1_9 a1_10
theorem f41_ai10rzai10rz_ok (k:Nat) (a0 a0_1 a0_2 a0_3 a0_4 a0_5 a0_6 a0_7 a0_8 a0_9:Int) (a0_10:List Int) (a1 a1_1 a1_2 a1_3 a1_4 a1_5 a1_6 a1_7 a1_8 a1_9:Int) (a1_10:List Int) (r:R41_ai10rzai10rz) (hF:f41_ai10rzai10rz k a0 a0_1 a0_2 a0_3 a0_4 a0_5 a0_6 a0_7 a0_8 a0_9 a0_10 a1 a1_1 a1_2 a1_3 a1_4 a1_5 a1_6 a1_7 a1_8 a1_9 a1_10 = some r) : CV k 41 [.agg [.p (.int .i64 a0),.p (.int .i64 a0_1),.p (.int .u32 a0_2),.p (.int .i64 a0_3),.p (.int .i64 a0_4),.p (.int .i64 a0_5),.p (.int .i64 a0_6),.p (.int .i64 a0_7),.p (.int .i64 a0_8),.p (.int .i64 a0_9),.sl 1 (rowsOf (encI .u8) a0_10)],.agg [.p (.int .i64 a1),.p (.int .i64 a1_1),.p (.int .u32 a1_2),.p (.int .i64 a1_3),.p (.int .i64 a1_4),.p (.int .i64 a1_5),.p (.int .i64 a1_6),.p (.int .i64 a1_7),.p (.int .i64 a1_8),.p (.int .i64 a1_9),.sl 1 (rowsOf (encI .u8) a1_10)]] [] = some r.st := by
 cases k with
 | zero => cases hF
 | succ k =>
  unfold CV
  rw [ev_call (F := Try.f41) (c := (nav B41 [])) rfl Try.func41 rfl rfl rfl rfl]
  exact f41_ai10rzai10rz_e_ok k a0 a0_1 a0_2 a0_3 a0_4 a0_5 a0_6 a0_7 a0_8 a0_9 a0_10 a1 a1_1 a1_2 a1_3 a1_4 a1_5 a1_6 a1_7 a1_8 a1_9 a1_10 r hF
-- f67_rr: f67 bytes.Equal
inductive R67_rr where
 | o0 (y:Bool)
noncomputable def R67_rr.st : R67_rr → V × List O × List O
 | .o0 y => (.p (.bool y),[],[])
noncomputable def f67_rr_e (k:Nat) (a0 a1:List Int) : Option R67_rr :=
 some (R67_rr.o0 (((strOf a0).toList == (strOf a1).toList)))
theorem f67_rr_e_ok (k:Nat) (a0 a1:List Int) (r:R67_rr) (hF:f67_rr_e k a0 a1 = some r) : finK Try.prog Try.f67 0 (EX 67 k (nav B67 []) (⟨10,[(0,.sl 1 (rowsOf (encI .u8) a0)),(1,.sl 1 (rowsOf (encI .u8) a1))],[]⟩ : St)) = some r.st := by
 unfold f67_rr_e at hF
 cases hF
 simp (maxSteps:=999999) (disch:=first|exact D (by decide)|exact K (by kernel_rfl)) only [E,EE,↓reduceIte,simprocAttr,xk B67 [] .sq rfl,rg B67 [1] 0 false rfl,hr_67_0,xk B67 [2] .sq rfl,rg B67 [1,2] 1 false rfl,hr_67_1,t_29,t_9,strV,content,strRows_map,t_5,xk B67 [2,2] .rt rfl,finK_norm,finK_ret,fin67,R67_rr.st]
noncomputable def f67_rr (k:Nat) (a0 a1:List Int) : Option R67_rr := match k with | 0 => none | k + 1 => f67_rr_e k a0 a1
theorem f67_rr_ok (k:Nat) (a0 a1:List Int) (r:R67_rr) (hF:f67_rr k a0 a1 = some r) : CV k 67 [.sl 1 (rowsOf (encI .u8) a0),.sl 1 (rowsOf (encI .u8) a1)] [] = some r.st := by
 cases k with
 | zero => cases hF
 | succ k =>
  unfold CV
  rw [ev_call (F := Try.f67) (c := (nav B67 [])) rfl Try.func67 rfl rfl rfl rfl]
  exact f67_rr_e_ok k a0 a1 r hF
end Go.Proofs.YticggdfaehneeaaV