/- What the program's functions answer: plain functions,and that the interpreter answers what they do. Written by a program of this session,out of the translation. -/
import Derived.Test.YticggdfaehneeaaVP3
namespace Go.Proofs.YticggdfaehneeaaV
open Go
set_option linter.unusedVariables false
set_option linter.unusedSimpArgs false
set_option maxRecDepth 8000
set_option maxHeartbeats 4000000
-- f58_r: f58 heliograph/pieces.gathered
inductive R58_r where
 | o0 (y:List Bool) (y_1:List Int) (y_2:Int)
 | o1 (y:Int) (y_1:List Bool) (y_2:List Int)
noncomputable def R58_r.st : R58_r → V × List O × List O
 | .o0 y y_1 y_2 => (V.tup [.sl 1 (rowsOf encB y),.sl 1 (rowsOf (encI .u8) y_1),.p (.int .i64 y_2)],[],[])
 | .o1 y y_1 y_2 => (V.tup [.own 2000000,.own 2000001,.p (.int .i64 y)],[],[.row true 1 4 (rowsOf encB y_1),.row true 1 5 (rowsOf (encI .u8) y_2)])
inductive R58_r_l1_l2 where
 | o0 (y:List Bool) (y_1:List Int) (y_2:Int)
 | o1 (y y_1:List T39) (y_2 y_3:Int) (y_4:List T39) (y_5 y_6 y_7 y_8 y_9 y_10 y_11 y_12 y_13 y_14 y_15 y_16:Int) (y_17:List Int)
 | o2 (y y_1:List T39) (y_2 y_3:Int) (y_4:List T39) (y_5 y_6:Int) (y_7:Bool) (y_8 y_9 y_10 y_11 y_12 y_13 y_14 y_15 y_16 y_17:Int) (y_18:List Int)
noncomputable def R58_r_l1_l2.st : R58_r_l1_l2 → Out × St
 | .o0 y y_1 y_2 => (.ret,(⟨78,[(2,.sl 1 (rowsOf encB y)),(3,.sl 1 (rowsOf (encI .u8) y_1)),(4,.p (.int .i64 y_2))],[]⟩ : St))
 | .o1 y y_1 y_2 y_3 y_4 y_5 y_6 y_7 y_8 y_9 y_10 y_11 y_12 y_13 y_14 y_15 y_16 y_17 => (.norm,(⟨78,[(0,.sl 11 (rowsOf encT39 y)),(6,.ptr 30000 0),(14,.sl 11 (rowsOf encT39 y_1)),(15,.p (.int .i64 y_2)),(16,.p (.int .i64 y_3)),(24,.sl 11 (rowsOf encT39 y_4)),(25,.p (.int .i64 y_5)),(26,.p (.int .i64 y_6))],[(30000,.box 39 [.p (.int .i64 y_7),.p (.int .i64 y_8),.p (.int .u32 y_9),.p (.int .i64 y_10),.p (.int .i64 y_11),.p (.int .i64 y_12),.p (.int .i64 y_13),.p (.int .i64 y_14),.p (.int .i64 y_15),.p (.int .i64 y_16),.sl 1 (rowsOf (encI .u8) y_17)])]⟩ : St))
 | .o2 y y_1 y_2 y_3 y_4 y_5 y_6 y_7 y_8 y_9 y_10 y_11 y_12 y_13 y_14 y_15 y_16 y_17 y_18 => (.exit 2,(⟨78,[(0,.sl 11 (rowsOf encT39 y)),(6,.ptr 30000 0),(14,.sl 11 (rowsOf encT39 y_1)),(15,.p (.int .i64 y_2)),(16,.p (.int .i64 y_3)),(24,.sl 11 (rowsOf encT39 y_4)),(25,.p (.int .i64 y_5)),(26,.p (.int .i64 y_6)),(27,.p (.bool y_7))],[(30000,.box 39 [.p (.int .i64 y_8),.p (.int .i64 y_9),.p (.int .u32 y_10),.p (.int .i64 y_11),.p (.int .i64 y_12),.p (.int .i64 y_13),.p (.int .i64 y_14),.p (.int .i64 y_15),.p (.int .i64 y_16),.p (.int .i64 y_17),.sl 1 (rowsOf (encI .u8) y_18)])]⟩ : St))
noncomputable def f58_r_l1_l2_j2 (k:Nat) (x0 x14:List T39) (x15 x16:Int) (x24:List T39) (x25 x26:Int) (x33:Bool) (h0_ h0__1 h0__2 h0__3 h0__4 h0__5 h0__6 h0__7 h0__8 h0__9:Int) (h0__10:List Int) : Option R58_r_l1_l2 :=
 some (R58_r_l1_l2.o1 x0 x14 x15 x16 x24 x25 (IntKind.i64.wrap (x26 + (1:Int))) h0_ h0__1 h0__2 h0__3 h0__4 h0__5 h0__6 h0__7 h0__8 h0__9 h0__10)
theorem f58_r_l1_l2_j2_ok (k:Nat) (x0 x14:List T39) (x15 x16:Int) (x24:List T39) (x25 x26:Int) (x33:Bool) (h0_ h0__1 h0__2 h0__3 h0__4 h0__5 h0__6 h0__7 h0__8 h0__9:Int) (h0__10:List Int) (r:R58_r_l1_l2) (hF:f58_r_l1_l2_j2 k x0 x14 x15 x16 x24 x25 x26 x33 h0_ h0__1 h0__2 h0__3 h0__4 h0__5 h0__6 h0__7 h0__8 h0__9 h0__10 = some r) : EX 58 k (nav B58 [2,2,2,1,2,2,2,2,1,2,2,1,2,2,1,2]) (⟨78,[(0,.sl 11 (rowsOf encT39 x0)),(6,.ptr 30000 0),(14,.sl 11 (rowsOf encT39 x14)),(15,.p (.int .i64 x15)),(16,.p (.int .i64 x16)),(24,.sl 11 (rowsOf encT39 x24)),(25,.p (.int .i64 x25)),(26,.p (.int .i64 x26)),(33,.p (.bool x33))],[(30000,.box 39 [.p (.int .i64 h0_),.p (.int .i64 h0__1),.p (.int .u32 h0__2),.p (.int .i64 h0__3),.p (.int .i64 h0__4),.p (.int .i64 h0__5),.p (.int .i64 h0__6),.p (.int .i64 h0__7),.p (.int .i64 h0__8),.p (.int .i64 h0__9),.sl 1 (rowsOf (encI .u8) h0__10)])]⟩ : St) = some r.st := by
 unfold f58_r_l1_l2_j2 at hF
 cases hF
 simp (maxSteps:=999999) (disch:=first|exact D (by decide)|exact K (by kernel_rfl)) only [E,EE,↓reduceIte,simprocAttr,rg B58 [2,2,2,1,2,2,2,2,1,2,2,1,2,2,1,2] 9 false rfl,hr_58_9,R58_r_l1_l2.st]
noncomputable def f58_r_l1_l2_j1 (k:Nat) (x0 x14:List T39) (x15 x16:Int) (x24:List T39) (x25 x26:Int) (x27:Bool) (h0_ h0__1 h0__2 h0__3 h0__4 h0__5 h0__6 h0__7 h0__8 h0__9:Int) (h0__10:List Int) : Option R58_r_l1_l2 :=
 ifE ((0:Int) ≤ x26) (
  Option.bind (x24[(Int.toNat x26)]?) fun v2 =>
   Option.bind (f65_ai10rzai10rz k h0_ h0__1 h0__2 h0__3 h0__4 h0__5 h0__6 h0__7 h0__8 h0__9 h0__10 v2.Source v2.Dest v2.Seq v2.Created v2.Lifetime v2.HopLimit v2.Hops v2.Priority v2.Offset v2.Total v2.Payload) fun o4 =>
    match o4 with
    | .o0 v7 =>
     cond ((!v7))
      (some (R58_r_l1_l2.o0 [] [] 280))
      (f58_r_l1_l2_j2 k x0 x14 x15 x16 x24 x25 x26 false h0_ h0__1 h0__2 h0__3 h0__4 h0__5 h0__6 h0__7 h0__8 h0__9 h0__10))
theorem f58_r_l1_l2_j1_ok (k:Nat) (x0 x14:List T39) (x15 x16:Int) (x24:List T39) (x25 x26:Int) (x27:Bool) (h0_ h0__1 h0__2 h0__3 h0__4 h0__5 h0__6 h0__7 h0__8 h0__9:Int) (h0__10:List Int) (r:R58_r_l1_l2) (hF:f58_r_l1_l2_j1 k x0 x14 x15 x16 x24 x25 x26 x27 h0_ h0__1 h0__2 h0__3 h0__4 h0__5 h0__6 h0__7 h0__8 h0__9 h0__10 = some r) : EX 58 k (nav B58 [2,2,1,2,2,2,2,1,2,2,1,2,2,1,2]) (⟨78,[(0,.sl 11 (rowsOf encT39 x0)),(6,.ptr 30000 0),(14,.sl 11 (rowsOf encT39 x14)),(15,.p (.int .i64 x15)),(16,.p (.int .i64 x16)),(24,.sl 11 (rowsOf encT39 x24)),(25,.p (.int .i64 x25)),(26,.p (.int .i64 x26)),(27,.p (.bool x27))],[(30000,.box 39 [.p (.int .i64 h0_),.p (.int .i64 h0__1),.p (.int .u32 h0__2),.p (.int .i64 h0__3),.p (.int .i64 h0__4),.p (.int .i64 h0__5),.p (.int .i64 h0__6),.p (.int .i64 h0__7),.p (.int .i64 h0__8),.p (.int .i64 h0__9),.sl 1 (rowsOf (encI .u8) h0__10)])]⟩ : St) = some r.st := by
 unfold f58_r_l1_l2_j1 at hF
 obtain ⟨h1,hF⟩ := ifE_some.1 hF
 obtain ⟨v2,h3,hF⟩ := bs hF
 obtain ⟨o4,h5,hF⟩ := bs hF
 have hc6 := f65_ai10rzai10rz_ok k h0_ h0__1 h0__2 h0__3 h0__4 h0__5 h0__6 h0__7 h0__8 h0__9 h0__10 v2.Source v2.Dest v2.Seq v2.Created v2.Lifetime v2.HopLimit v2.Hops v2.Priority v2.Offset v2.Total v2.Payload _ h5
 cases o4 with
 | o0 v7 =>
  (try dsimp only at hF)
  (try simp only [NM,EE,R65_ai10rzai10rz.st] at hc6)
  simp (maxSteps:=999999) (disch:=first|exact D (by decide)|exact K (by kernel_rfl)) only [E,EE,↓reduceIte,simprocAttr,xk B58 [2,2,1,2,2,2,2,1,2,2,1,2,2,1,2] .sq rfl,xk B58 [1,2,2,1,2,2,2,2,1,2,2,1,2,2,1,2] (.bk 3) rfl,xk B58 [2,1,2,2,1,2,2,2,2,1,2,2,1,2,2,1,2] .sq rfl,rg B58 [1,2,1,2,2,1,2,2,2,2,1,2,2,1,2,2,1,2] 6 false rfl,hr_58_6,indexAddrV,t_24,t_39,encT39_eq,xk B58 [2,2,1,2,2,1,2,2,2,2,1,2,2,1,2,2,1,2] .sq rfl,rg B58 [1,2,2,1,2,2,1,2,2,2,2,1,2,2,1,2,2,1,2] 7 false rfl,hr_58_7,callStep,CL,gv,List.contains,xk B58 [2,2,2,1,2,2,1,2,2,2,2,1,2,2,1,2,2,1,2] (.cd 33) rfl,h1,h3,hc6]
  rcases cond_some hF with ⟨h8,hF⟩ | ⟨h8,hF⟩
  ·cases hF
   simp (maxSteps:=999999) (disch:=first|exact D (by decide)|exact K (by kernel_rfl)) only [E,EE,↓reduceIte,simprocAttr,xk B58 [2,2,2,2,1,2,2,1,2,2,2,2,1,2,2,1,2,2,1,2] .sq rfl,rg B58 [1,2,2,2,2,1,2,2,1,2,2,2,2,1,2,2,1,2,2,1,2] 8 false rfl,hr_58_8,xk B58 [2,2,2,2,2,1,2,2,1,2,2,2,2,1,2,2,1,2,2,1,2] .rt rfl,R58_r_l1_l2.st,h1,h3,hc6,h8]
  ·have hJ := f58_r_l1_l2_j2_ok k x0 x14 x15 x16 x24 x25 x26 false h0_ h0__1 h0__2 h0__3 h0__4 h0__5 h0__6 h0__7 h0__8 h0__9 h0__10 _ hF
   simp (maxSteps:=999999) (disch:=first|exact D (by decide)|exact K (by kernel_rfl)) only [E,EE,↓reduceIte,simprocAttr,xk B58 [3,2,2,2,1,2,2,1,2,2,2,2,1,2,2,1,2,2,1,2] .sk rfl,h1,h3,hc6,h8]
   try simp only [NM,EE] at hJ
   exact hJ
noncomputable def f58_r_l1_l2_b (k:Nat) (x0 x14:List T39) (x15 x16:Int) (x24:List T39) (x25 x26 h0_ h0__1 h0__2 h0__3 h0__4 h0__5 h0__6 h0__7 h0__8 h0__9:Int) (h0__10:List Int) : Option R58_r_l1_l2 :=
 cond ((decide (x26 < x25)))
  (f58_r_l1_l2_j1 k x0 x14 x15 x16 x24 x25 x26 true h0_ h0__1 h0__2 h0__3 h0__4 h0__5 h0__6 h0__7 h0__8 h0__9 h0__10)
  (some (R58_r_l1_l2.o2 x0 x14 x15 x16 x24 x25 x26 false h0_ h0__1 h0__2 h0__3 h0__4 h0__5 h0__6 h0__7 h0__8 h0__9 h0__10))
theorem f58_r_l1_l2_b_ok (k:Nat) (x0 x14:List T39) (x15 x16:Int) (x24:List T39) (x25 x26 h0_ h0__1 h0__2 h0__3 h0__4 h0__5 h0__6 h0__7 h0__8 h0__9:Int) (h0__10:List Int) (r:R58_r_l1_l2) (hF:f58_r_l1_l2_b k x0 x14 x15 x16 x24 x25 x26 h0_ h0__1 h0__2 h0__3 h0__4 h0__5 h0__6 h0__7 h0__8 h0__9 h0__10 = some r) : EX 58 k (nav B58 [1,2,2,2,2,1,2,2,1,2,2,1,2]) (⟨78,[(0,.sl 11 (rowsOf encT39 x0)),(6,.ptr 30000 0),(14,.sl 11 (rowsOf encT39 x14)),(15,.p (.int .i64 x15)),(16,.p (.int .i64 x16)),(24,.sl 11 (rowsOf encT39 x24)),(25,.p (.int .i64 x25)),(26,.p (.int .i64 x26))],[(30000,.box 39 [.p (.int .i64 h0_),.p (.int .i64 h0__1),.p (.int .u32 h0__2),.p (.int .i64 h0__3),.p (.int .i64 h0__4),.p (.int .i64 h0__5),.p (.int .i64 h0__6),.p (.int .i64 h0__7),.p (.int .i64 h0__8),.p (.int .i64 h0__9),.sl 1 (rowsOf (encI .u8) h0__10)])]⟩ : St) = some r.st := by
 unfold f58_r_l1_l2_b at hF
 simp (maxSteps:=999999) (disch:=first|exact D (by decide)|exact K (by kernel_rfl)) only [E,EE,↓reduceIte,simprocAttr,xk B58 [1,2,2,2,2,1,2,2,1,2,2,1,2] .sq rfl,rg B58 [1,1,2,2,2,2,1,2,2,1,2,2,1,2] 5 false rfl,hr_58_5,xk B58 [2,1,2,2,2,2,1,2,2,1,2,2,1,2] .sq rfl,xk B58 [1,2,1,2,2,2,2,1,2,2,1,2,2,1,2] (.cd 27) rfl]
 rcases cond_some hF with ⟨h1,hF⟩ | ⟨h1,hF⟩
 ·have hJ := f58_r_l1_l2_j1_ok k x0 x14 x15 x16 x24 x25 x26 true h0_ h0__1 h0__2 h0__3 h0__4 h0__5 h0__6 h0__7 h0__8 h0__9 h0__10 _ hF
  simp (maxSteps:=999999) (disch:=first|exact D (by decide)|exact K (by kernel_rfl)) only [E,EE,↓reduceIte,simprocAttr,xk B58 [2,1,2,1,2,2,2,2,1,2,2,1,2,2,1,2] .sk rfl,h1]
  try simp only [NM,EE] at hJ
  exact hJ
 ·cases hF
  simp (maxSteps:=999999) (disch:=first|exact D (by decide)|exact K (by kernel_rfl)) only [E,EE,↓reduceIte,simprocAttr,xk B58 [3,1,2,1,2,2,2,2,1,2,2,1,2,2,1,2] (.ex 2) rfl,R58_r_l1_l2.st,h1]
noncomputable def f58_r_l1_l2 (k:Nat) : Nat → (List T39) → (List T39) → Int → Int → (List T39) → Int → Int → Int → Int → Int → Int → Int → Int → Int → Int → Int → Int → (List Int) → Option R58_r_l1_l2
 | 0,_,_,_,_,_,_,_,_,_,_,_,_,_,_,_,_,_,_ => none
 | n + 1,x0,x14,x15,x16,x24,x25,x26,h0_,h0__1,h0__2,h0__3,h0__4,h0__5,h0__6,h0__7,h0__8,h0__9,h0__10 => Option.bind (f58_r_l1_l2_b k x0 x14 x15 x16 x24 x25 x26 h0_ h0__1 h0__2 h0__3 h0__4 h0__5 h0__6 h0__7 h0__8 h0__9 h0__10) fun o =>
  match o with
  | .o0 y y_1 y_2 => some (.o0 y y_1 y_2)
  | .o1 y y_1 y_2 y_3 y_4 y_5 y_6 y_7 y_8 y_9 y_10 y_11 y_12 y_13 y_14 y_15 y_16 y_17 => f58_r_l1_l2 k n y y_1 y_2 y_3 y_4 y_5 y_6 y_7 y_8 y_9 y_10 y_11 y_12 y_13 y_14 y_15 y_16 y_17
  | .o2 y y_1 y_2 y_3 y_4 y_5 y_6 y_7 y_8 y_9 y_10 y_11 y_12 y_13 y_14 y_15 y_16 y_17 y_18 => some (.o2 y y_1 y_2 y_3 y_4 y_5 y_6 y_7 y_8 y_9 y_10 y_11 y_12 y_13 y_14 y_15 y_16 y_17 y_18)
theorem f58_r_l1_l2_ok (k n:Nat) : ∀ (x0 x14:List T39) (x15 x16:Int) (x24:List T39) (x25 x26 h0_ h0__1 h0__2 h0__3 h0__4 h0__5 h0__6 h0__7 h0__8 h0__9:Int) (h0__10:List Int) (r:R58_r_l1_l2) (hF:f58_r_l1_l2 k n x0 x14 x15 x16 x24 x25 x26 h0_ h0__1 h0__2 h0__3 h0__4 h0__5 h0__6 h0__7 h0__8 h0__9 h0__10 = some r) (σ:St) (hσ:headR (hints.head 58 5) (hints.canon 58 5) σ = some (⟨78,[(0,.sl 11 (rowsOf encT39 x0)),(6,.ptr 30000 0),(14,.sl 11 (rowsOf encT39 x14)),(15,.p (.int .i64 x15)),(16,.p (.int .i64 x16)),(24,.sl 11 (rowsOf encT39 x24)),(25,.p (.int .i64 x25)),(26,.p (.int .i64 x26))],[(30000,.box 39 [.p (.int .i64 h0_),.p (.int .i64 h0__1),.p (.int .u32 h0__2),.p (.int .i64 h0__3),.p (.int .i64 h0__4),.p (.int .i64 h0__5),.p (.int .i64 h0__6),.p (.int .i64 h0__7),.p (.int .i64 h0__8),.p (.int .i64 h0__9),.sl 1 (rowsOf (encI .u8) h0__10)])]⟩ : St)),LP 58 k (nav B58 [1,2,2,2,2,1,2,2,1,2,2,1,2]) n σ = some r.st := by
 induction n with
 | zero => intro x0 x14 x15 x16 x24 x25 x26 h0_ h0__1 h0__2 h0__3 h0__4 h0__5 h0__6 h0__7 h0__8 h0__9 h0__10 r hF; cases hF
 | succ n ih =>
  intro x0 x14 x15 x16 x24 x25 x26 h0_ h0__1 h0__2 h0__3 h0__4 h0__5 h0__6 h0__7 h0__8 h0__9 h0__10 r hF σ hσ
  rw [f58_r_l1_l2] at hF
  obtain ⟨o,h,hF⟩ := Option.bind_eq_some_iff.1 hF
  have hB := f58_r_l1_l2_b_ok k x0 x14 x15 x16 x24 x25 x26 h0_ h0__1 h0__2 h0__3 h0__4 h0__5 h0__6 h0__7 h0__8 h0__9 h0__10 o h
  unfold LP at ih ⊢
  unfold EX at hB
  rw [loopK_succ,show firstReg (nav B58 [1,2,2,2,2,1,2,2,1,2,2,1,2]) = 5 from rfl,hσ,headK_some,hB]
  cases o with
  | o0 y y_1 y_2 => cases hF; rfl
  | o1 y y_1 y_2 y_3 y_4 y_5 y_6 y_7 y_8 y_9 y_10 y_11 y_12 y_13 y_14 y_15 y_16 y_17 =>
   refine ih y y_1 y_2 y_3 y_4 y_5 y_6 y_7 y_8 y_9 y_10 y_11 y_12 y_13 y_14 y_15 y_16 y_17 r hF _ ?_
   simp (maxSteps:=999999) (disch:=first|exact D (by decide)|exact K (by kernel_rfl)) only [E,EE,↓reduceIte,simprocAttr,hh_58_5,hc_58_5]
  | o2 y y_1 y_2 y_3 y_4 y_5 y_6 y_7 y_8 y_9 y_10 y_11 y_12 y_13 y_14 y_15 y_16 y_17 y_18 => cases hF; rfl
inductive R58_r_l1 where
 | o0 (y:List Bool) (y_1:List Int) (y_2:Int)
 | o1 (y y_1:List T39) (y_2 y_3:Int)
 | o2 (y y_1:List T39) (y_2 y_3:Int) (y_4:Bool)
noncomputable def R58_r_l1.st : R58_r_l1 → Out × St
 | .o0 y y_1 y_2 => (.ret,(⟨78,[(2,.sl 1 (rowsOf encB y)),(3,.sl 1 (rowsOf (encI .u8) y_1)),(4,.p (.int .i64 y_2))],[]⟩ : St))
 | .o1 y y_1 y_2 y_3 => (.norm,(⟨78,[(0,.sl 11 (rowsOf encT39 y)),(14,.sl 11 (rowsOf encT39 y_1)),(15,.p (.int .i64 y_2)),(16,.p (.int .i64 y_3))],[]⟩ : St))
 | .o2 y y_1 y_2 y_3 y_4 => (.exit 0,(⟨78,[(0,.sl 11 (rowsOf encT39 y)),(14,.sl 11 (rowsOf encT39 y_1)),(15,.p (.int .i64 y_2)),(16,.p (.int .i64 y_3)),(17,.p (.bool y_4))],[]⟩ : St))
noncomputable def f58_r_l1_j3 (k:Nat) (x0 x14:List T39) (x15 x16:Int) (x24:List T39) (x25 x26:Int) (x27:Bool) (h0_ h0__1 h0__2 h0__3 h0__4 h0__5 h0__6 h0__7 h0__8 h0__9:Int) (h0__10:List Int) : Option R58_r_l1 :=
 some (R58_r_l1.o1 x0 x14 x15 (IntKind.i64.wrap (x16 + (1:Int))))
theorem f58_r_l1_j3_ok (k:Nat) (x0 x14:List T39) (x15 x16:Int) (x24:List T39) (x25 x26:Int) (x27:Bool) (h0_ h0__1 h0__2 h0__3 h0__4 h0__5 h0__6 h0__7 h0__8 h0__9:Int) (h0__10:List Int) (r:R58_r_l1) (hF:f58_r_l1_j3 k x0 x14 x15 x16 x24 x25 x26 x27 h0_ h0__1 h0__2 h0__3 h0__4 h0__5 h0__6 h0__7 h0__8 h0__9 h0__10 = some r) : EX 58 k (nav B58 [2,2,2,1,2,2,1,2]) (⟨78,[(0,.sl 11 (rowsOf encT39 x0)),(6,.ptr 30000 0),(14,.sl 11 (rowsOf encT39 x14)),(15,.p (.int .i64 x15)),(16,.p (.int .i64 x16)),(24,.sl 11 (rowsOf encT39 x24)),(25,.p (.int .i64 x25)),(26,.p (.int .i64 x26)),(27,.p (.bool x27))],[(30000,.box 39 [.p (.int .i64 h0_),.p (.int .i64 h0__1),.p (.int .u32 h0__2),.p (.int .i64 h0__3),.p (.int .i64 h0__4),.p (.int .i64 h0__5),.p (.int .i64 h0__6),.p (.int .i64 h0__7),.p (.int .i64 h0__8),.p (.int .i64 h0__9),.sl 1 (rowsOf (encI .u8) h0__10)])]⟩ : St) = some r.st := by
 unfold f58_r_l1_j3 at hF
 cases hF
 simp (maxSteps:=999999) (disch:=first|exact D (by decide)|exact K (by kernel_rfl)) only [E,EE,↓reduceIte,simprocAttr,rg B58 [2,2,2,1,2,2,1,2] 10 false rfl,hr_58_10,R58_r_l1.st]
noncomputable def f58_r_l1_j1 (k:Nat) (x0 x14:List T39) (x15 x16:Int) (x17:Bool) : Option R58_r_l1 :=
 ifE ((0:Int) ≤ x16) (
  Option.bind (x14[(Int.toNat x16)]?) fun v2 =>
   ifE ((0:Int) ≤ (IntKind.i64.wrap (x16 + (1:Int)))) (
    ifE ((Int.toNat (IntKind.i64.wrap (x16 + (1:Int)))) ≤ (List.length x0)) (
     Option.bind (f58_r_l1_l2 k k x0 x14 x15 x16 (List.take (Int.toNat (IntKind.i64.wrap (x16 + (1:Int)))) x0) ((List.length (List.take (Int.toNat (IntKind.i64.wrap (x16 + (1:Int)))) x0)) : Int) 0 v2.Source v2.Dest v2.Seq v2.Created v2.Lifetime v2.HopLimit v2.Hops v2.Priority v2.Offset v2.Total v2.Payload) fun o6 =>
      match o6 with
      | .o0 v9 v10 v11 =>
       some (R58_r_l1.o0 v9 v10 v11)
      | .o1 _ _ _ _ _ _ _ _ _ _ _ _ _ _ _ _ _ _ =>
       none
      | .o2 v12 v13 v14 v15 v16 v17 v18 v19 v20 v21 v22 v23 v24 v25 v26 v27 v28 v29 v30 =>
       f58_r_l1_j3 k v12 v13 v14 v15 v16 v17 v18 v19 v20 v21 v22 v23 v24 v25 v26 v27 v28 v29 v30)))
theorem f58_r_l1_j1_ok (k:Nat) (x0 x14:List T39) (x15 x16:Int) (x17:Bool) (r:R58_r_l1) (hF:f58_r_l1_j1 k x0 x14 x15 x16 x17 = some r) : EX 58 k (nav B58 [2,2,1,2,2,1,2]) (⟨78,[(0,.sl 11 (rowsOf encT39 x0)),(14,.sl 11 (rowsOf encT39 x14)),(15,.p (.int .i64 x15)),(16,.p (.int .i64 x16)),(17,.p (.bool x17))],[]⟩ : St) = some r.st := by
 unfold f58_r_l1_j1 at hF
 obtain ⟨h1,hF⟩ := ifE_some.1 hF
 obtain ⟨v2,h3,hF⟩ := bs hF
 obtain ⟨h4,hF⟩ := ifE_some.1 hF
 obtain ⟨h5,hF⟩ := ifE_some.1 hF
 obtain ⟨o6,h7,hF⟩ := bs hF
 have hc8 := f58_r_l1_l2_ok k k x0 x14 x15 x16 (List.take (Int.toNat (IntKind.i64.wrap (x16 + (1:Int)))) x0) ((List.length (List.take (Int.toNat (IntKind.i64.wrap (x16 + (1:Int)))) x0)) : Int) 0 v2.Source v2.Dest v2.Seq v2.Created v2.Lifetime v2.HopLimit v2.Hops v2.Priority v2.Offset v2.Total v2.Payload _ h7
 simp (maxSteps:=999999) (disch:=first|exact D (by decide)|exact K (by kernel_rfl)) only [E,EE,↓reduceIte,simprocAttr,xk B58 [2,2,1,2,2,1,2] .sq rfl,xk B58 [1,2,2,1,2,2,1,2] (.bk 1) rfl,xk B58 [2,1,2,2,1,2,2,1,2] .sq rfl,rg B58 [1,2,1,2,2,1,2,2,1,2] 3 false rfl,hr_58_3,indexAddrV,t_24,t_39,encT39_eq,xk B58 [2,2,1,2,2,1,2,2,1,2] .sq rfl,rg B58 [1,2,2,1,2,2,1,2,2,1,2] 4 false rfl,hr_58_4,sliceV,bound,xk B58 [2,2,2,1,2,2,1,2,2,1,2] (.bk 2) rfl,xk B58 [2,2,2,2,1,2,2,1,2,2,1,2] .lp rfl,hh_58_5,hc_58_5,h1,h3,h4,h5]
 (try simp only [NM,EE] at hc8)
 rw [hc8 _ (by simp (maxSteps:=999999) (disch:=first|exact D (by decide)|exact K (by kernel_rfl)) only [E,EE,↓reduceIte,simprocAttr,hh_58_5,hc_58_5,h1,h3,h4,h5])]
 clear hc8
 cases o6 with
 | o0 v9 v10 v11 =>
  (try dsimp only at hF)
  cases hF
  simp (maxSteps:=999999) (disch:=first|exact D (by decide)|exact K (by kernel_rfl)) only [E,EE,↓reduceIte,simprocAttr,R58_r_l1_l2.st,R58_r_l1.st,h1,h3,h4,h5]
 | o1 _ _ _ _ _ _ _ _ _ _ _ _ _ _ _ _ _ _ =>
  (try dsimp only at hF)
  cases hF
 | o2 v12 v13 v14 v15 v16 v17 v18 v19 v20 v21 v22 v23 v24 v25 v26 v27 v28 v29 v30 =>
  (try dsimp only at hF)
  have hJ := f58_r_l1_j3_ok k v12 v13 v14 v15 v16 v17 v18 v19 v20 v21 v22 v23 v24 v25 v26 v27 v28 v29 v30 _ hF
  simp (maxSteps:=999999) (disch:=first|exact D (by decide)|exact K (by kernel_rfl)) only [E,EE,↓reduceIte,simprocAttr,R58_r_l1_l2.st,h1,h3,h4,h5]
  try simp only [NM,EE] at hJ
  exact hJ
noncomputable def f58_r_l1_b (k:Nat) (x0 x14:List T39) (x15 x16:Int) : Option R58_r_l1 :=
 cond ((decide (x16 < x15)))
  (f58_r_l1_j1 k x0 x14 x15 x16 true)
  (some (R58_r_l1.o2 x0 x14 x15 x16 false))
theorem f58_r_l1_b_ok (k:Nat) (x0 x14:List T39) (x15 x16:Int) (r:R58_r_l1) (hF:f58_r_l1_b k x0 x14 x15 x16 = some r) : EX 58 k (nav B58 [1,2,2,1,2]) (⟨78,[(0,.sl 11 (rowsOf encT39 x0)),(14,.sl 11 (rowsOf encT39 x14)),(15,.p (.int .i64 x15)),(16,.p (.int .i64 x16))],[]⟩ : St) = some r.st := by
 unfold f58_r_l1_b at hF
 simp (maxSteps:=999999) (disch:=first|exact D (by decide)|exact K (by kernel_rfl)) only [E,EE,↓reduceIte,simprocAttr,xk B58 [1,2,2,1,2] .sq rfl,rg B58 [1,1,2,2,1,2] 2 false rfl,hr_58_2,xk B58 [2,1,2,2,1,2] .sq rfl,xk B58 [1,2,1,2,2,1,2] (.cd 17) rfl]
 rcases cond_some hF with ⟨h1,hF⟩ | ⟨h1,hF⟩
 ·have hJ := f58_r_l1_j1_ok k x0 x14 x15 x16 true _ hF
  simp (maxSteps:=999999) (disch:=first|exact D (by decide)|exact K (by kernel_rfl)) only [E,EE,↓reduceIte,simprocAttr,xk B58 [2,1,2,1,2,2,1,2] .sk rfl,h1]
  try simp only [NM,EE] at hJ
  exact hJ
 ·cases hF
  simp (maxSteps:=999999) (disch:=first|exact D (by decide)|exact K (by kernel_rfl)) only [E,EE,↓reduceIte,simprocAttr,xk B58 [3,1,2,1,2,2,1,2] (.ex 0) rfl,R58_r_l1.st,h1]
noncomputable def f58_r_l1 (k:Nat) : Nat → (List T39) → (List T39) → Int → Int → Option R58_r_l1
 | 0,_,_,_,_ => none
 | n + 1,x0,x14,x15,x16 => Option.bind (f58_r_l1_b k x0 x14 x15 x16) fun o =>
  match o with
  | .o0 y y_1 y_2 => some (.o0 y y_1 y_2)
  | .o1 y y_1 y_2 y_3 => f58_r_l1 k n y y_1 y_2 y_3
  | .o2 y y_1 y_2 y_3 y_4 => some (.o2 y y_1 y_2 y_3 y_4)
theorem f58_r_l1_ok (k n:Nat) : ∀ (x0 x14:List T39) (x15 x16:Int) (r:R58_r_l1) (hF:f58_r_l1 k n x0 x14 x15 x16 = some r) (σ:St) (hσ:headR (hints.head 58 2) (hints.canon 58 2) σ = some (⟨78,[(0,.sl 11 (rowsOf encT39 x0)),(14,.sl 11 (rowsOf encT39 x14)),(15,.p (.int .i64 x15)),(16,.p (.int .i64 x16))],[]⟩ : St)),LP 58 k (nav B58 [1,2,2,1,2]) n σ = some r.st := by
 induction n with
 | zero => intro x0 x14 x15 x16 r hF; cases hF
 | succ n ih =>
  intro x0 x14 x15 x16 r hF σ hσ
  rw [f58_r_l1] at hF
  obtain ⟨o,h,hF⟩ := Option.bind_eq_some_iff.1 hF
  have hB := f58_r_l1_b_ok k x0 x14 x15 x16 o h
  unfold LP at ih ⊢
  unfold EX at hB
  rw [loopK_succ,show firstReg (nav B58 [1,2,2,1,2]) = 2 from rfl,hσ,headK_some,hB]
  cases o with
  | o0 y y_1 y_2 => cases hF; rfl
  | o1 y y_1 y_2 y_3 =>
   refine ih y y_1 y_2 y_3 r hF _ ?_
   simp (maxSteps:=999999) (disch:=first|exact D (by decide)|exact K (by kernel_rfl)) only [E,EE,↓reduceIte,simprocAttr,hh_58_2,hc_58_2]
  | o2 y y_1 y_2 y_3 y_4 => cases hF; rfl
inductive R58_r_l4_l2 where
 | o0 (y:List T39) (y_1 y_2 y_3 y_4:Int) (y_5:List Bool) (y_6:List Int) (y_7 y_8 y_9 y_10 y_11 y_12 y_13 y_14 y_15 y_16:Int) (y_17:List Int)
 | o1 (y:List T39) (y_1 y_2 y_3 y_4:Int) (y_5:Bool) (y_6:List Bool) (y_7:List Int) (y_8 y_9 y_10 y_11 y_12 y_13 y_14 y_15 y_16 y_17:Int) (y_18:List Int)
noncomputable def R58_r_l4_l2.st : R58_r_l4_l2 → Out × St
 | .o0 y y_1 y_2 y_3 y_4 y_5 y_6 y_7 y_8 y_9 y_10 y_11 y_12 y_13 y_14 y_15 y_16 y_17 => (.norm,(⟨78,[(9,.own 30000),(10,.own 30001),(12,.ptr 30002 0),(49,.sl 11 (rowsOf encT39 y)),(50,.p (.int .i64 y_1)),(51,.p (.int .i64 y_2)),(64,.p (.int .i64 y_3)),(65,.p (.int .i64 y_4))],[(30000,.row true 1 4 (rowsOf encB y_5)),(30001,.row true 1 5 (rowsOf (encI .u8) y_6)),(30002,.box 39 [.p (.int .i64 y_7),.p (.int .i64 y_8),.p (.int .u32 y_9),.p (.int .i64 y_10),.p (.int .i64 y_11),.p (.int .i64 y_12),.p (.int .i64 y_13),.p (.int .i64 y_14),.p (.int .i64 y_15),.p (.int .i64 y_16),.sl 1 (rowsOf (encI .u8) y_17)])]⟩ : St))
 | .o1 y y_1 y_2 y_3 y_4 y_5 y_6 y_7 y_8 y_9 y_10 y_11 y_12 y_13 y_14 y_15 y_16 y_17 y_18 => (.exit 6,(⟨78,[(9,.own 30000),(10,.own 30001),(12,.ptr 30002 0),(49,.sl 11 (rowsOf encT39 y)),(50,.p (.int .i64 y_1)),(51,.p (.int .i64 y_2)),(64,.p (.int .i64 y_3)),(65,.p (.int .i64 y_4)),(66,.p (.bool y_5))],[(30000,.row true 1 4 (rowsOf encB y_6)),(30001,.row true 1 5 (rowsOf (encI .u8) y_7)),(30002,.box 39 [.p (.int .i64 y_8),.p (.int .i64 y_9),.p (.int .u32 y_10),.p (.int .i64 y_11),.p (.int .i64 y_12),.p (.int .i64 y_13),.p (.int .i64 y_14),.p (.int .i64 y_15),.p (.int .i64 y_16),.p (.int .i64 y_17),.sl 1 (rowsOf (encI .u8) y_18)])]⟩ : St))
noncomputable def f58_r_l4_l2_j2 (k:Nat) (x49:List T39) (x50 x51 x64 x65:Int) (h0_:List Bool) (h1_:List Int) (h2_ h2__1 h2__2 h2__3 h2__4 h2__5 h2__6 h2__7 h2__8 h2__9:Int) (h2__10:List Int) : Option R58_r_l4_l2 :=
 some (R58_r_l4_l2.o0 x49 x50 x51 x64 (IntKind.i64.wrap (x65 + (1:Int))) h0_ h1_ h2_ h2__1 h2__2 h2__3 h2__4 h2__5 h2__6 h2__7 h2__8 h2__9 h2__10)
theorem f58_r_l4_l2_j2_ok (k:Nat) (x49:List T39) (x50 x51 x64 x65:Int) (h0_:List Bool) (h1_:List Int) (h2_ h2__1 h2__2 h2__3 h2__4 h2__5 h2__6 h2__7 h2__8 h2__9:Int) (h2__10:List Int) (r:R58_r_l4_l2) (hF:f58_r_l4_l2_j2 k x49 x50 x51 x64 x65 h0_ h1_ h2_ h2__1 h2__2 h2__3 h2__4 h2__5 h2__6 h2__7 h2__8 h2__9 h2__10 = some r) : EX 58 k (nav B58 [2,2,2,1,2,2,2,2,2,1,2,2,1,2,2,1,2,2,2,2]) (⟨78,[(9,.own 30000),(10,.own 30001),(12,.ptr 30002 0),(49,.sl 11 (rowsOf encT39 x49)),(50,.p (.int .i64 x50)),(51,.p (.int .i64 x51)),(64,.p (.int .i64 x64)),(65,.p (.int .i64 x65))],[(30000,.row true 1 4 (rowsOf encB h0_)),(30001,.row true 1 5 (rowsOf (encI .u8) h1_)),(30002,.box 39 [.p (.int .i64 h2_),.p (.int .i64 h2__1),.p (.int .u32 h2__2),.p (.int .i64 h2__3),.p (.int .i64 h2__4),.p (.int .i64 h2__5),.p (.int .i64 h2__6),.p (.int .i64 h2__7),.p (.int .i64 h2__8),.p (.int .i64 h2__9),.sl 1 (rowsOf (encI .u8) h2__10)])]⟩ : St) = some r.st := by
 unfold f58_r_l4_l2_j2 at hF
 cases hF
 simp (maxSteps:=999999) (disch:=first|exact D (by decide)|exact K (by kernel_rfl)) only [E,EE,↓reduceIte,simprocAttr,rg B58 [2,2,2,1,2,2,2,2,2,1,2,2,1,2,2,1,2,2,2,2] 22 false rfl,hr_58_22,R58_r_l4_l2.st]
noncomputable def f58_r_l4_l2_j1 (k:Nat) (x49:List T39) (x50 x51 x64 x65:Int) (x66:Bool) (h0_:List Bool) (h1_:List Int) (h2_ h2__1 h2__2 h2__3 h2__4 h2__5 h2__6 h2__7 h2__8 h2__9:Int) (h2__10:List Int) : Option R58_r_l4_l2 :=
 ifE ((0:Int) ≤ (IntKind.i64.wrap (h2__8 + x65))) (
  ifE ((IntKind.i64.wrap (h2__8 + x65)) < ((List.length h0_) : Int)) (
   Option.bind (h0_[(Int.toNat (IntKind.i64.wrap (h2__8 + x65)))]?) fun v3 =>
    f58_r_l4_l2_j2 k x49 x50 x51 x64 x65 (List.set h0_ (Int.toNat (IntKind.i64.wrap (h2__8 + x65))) true) h1_ h2_ h2__1 h2__2 h2__3 h2__4 h2__5 h2__6 h2__7 h2__8 h2__9 h2__10))
theorem f58_r_l4_l2_j1_ok (k:Nat) (x49:List T39) (x50 x51 x64 x65:Int) (x66:Bool) (h0_:List Bool) (h1_:List Int) (h2_ h2__1 h2__2 h2__3 h2__4 h2__5 h2__6 h2__7 h2__8 h2__9:Int) (h2__10:List Int) (r:R58_r_l4_l2) (hF:f58_r_l4_l2_j1 k x49 x50 x51 x64 x65 x66 h0_ h1_ h2_ h2__1 h2__2 h2__3 h2__4 h2__5 h2__6 h2__7 h2__8 h2__9 h2__10 = some r) : EX 58 k (nav B58 [2,2,1,2,2,2,2,2,1,2,2,1,2,2,1,2,2,2,2]) (⟨78,[(9,.own 30000),(10,.own 30001),(12,.ptr 30002 0),(49,.sl 11 (rowsOf encT39 x49)),(50,.p (.int .i64 x50)),(51,.p (.int .i64 x51)),(64,.p (.int .i64 x64)),(65,.p (.int .i64 x65)),(66,.p (.bool x66))],[(30000,.row true 1 4 (rowsOf encB h0_)),(30001,.row true 1 5 (rowsOf (encI .u8) h1_)),(30002,.box 39 [.p (.int .i64 h2_),.p (.int .i64 h2__1),.p (.int .u32 h2__2),.p (.int .i64 h2__3),.p (.int .i64 h2__4),.p (.int .i64 h2__5),.p (.int .i64 h2__6),.p (.int .i64 h2__7),.p (.int .i64 h2__8),.p (.int .i64 h2__9),.sl 1 (rowsOf (encI .u8) h2__10)])]⟩ : St) = some r.st := by
 unfold f58_r_l4_l2_j1 at hF
 obtain ⟨h1,hF⟩ := ifE_some.1 hF
 obtain ⟨h2,hF⟩ := ifE_some.1 hF
 obtain ⟨v3,h4,hF⟩ := bs hF
 have q5 : List.set (rowsOf encB h0_) (Int.toNat (IntKind.i64.wrap (h2__8 + x65))) [.p (.bool true)] = rowsOf encB (List.set h0_ (Int.toNat (IntKind.i64.wrap (h2__8 + x65))) true) := (rowsOf_set (enc := encB) (l := h0_) (i := (Int.toNat (IntKind.i64.wrap (h2__8 + x65)))) (x := true)).symm
 have hJ := f58_r_l4_l2_j2_ok k x49 x50 x51 x64 x65 (List.set h0_ (Int.toNat (IntKind.i64.wrap (h2__8 + x65))) true) h1_ h2_ h2__1 h2__2 h2__3 h2__4 h2__5 h2__6 h2__7 h2__8 h2__9 h2__10 _ hF
 simp (maxSteps:=999999) (disch:=first|exact D (by decide)|exact K (by kernel_rfl)) only [E,EE,↓reduceIte,simprocAttr,xk B58 [2,2,1,2,2,2,2,2,1,2,2,1,2,2,1,2,2,2,2] .sq rfl,xk B58 [1,2,2,1,2,2,2,2,2,1,2,2,1,2,2,1,2,2,2,2] (.bk 7) rfl,xk B58 [2,1,2,2,1,2,2,2,2,2,1,2,2,1,2,2,1,2,2,2,2] .sq rfl,rg B58 [1,2,1,2,2,1,2,2,2,2,2,1,2,2,1,2,2,1,2,2,2,2] 20 false rfl,hr_58_20,rg B58 [2,2,1,2,2,1,2,2,2,2,2,1,2,2,1,2,2,1,2,2,2,2] 21 false rfl,hr_58_21,fieldAddrV,t_39,t_3,indexAddrV,t_90,t_4,sm_4,encB_eq,h1,h2,h4,q5]
 try simp only [NM,EE] at hJ
 exact hJ
noncomputable def f58_r_l4_l2_b (k:Nat) (x49:List T39) (x50 x51 x64 x65:Int) (h0_:List Bool) (h1_:List Int) (h2_ h2__1 h2__2 h2__3 h2__4 h2__5 h2__6 h2__7 h2__8 h2__9:Int) (h2__10:List Int) : Option R58_r_l4_l2 :=
 cond ((decide (x65 < x64)))
  (f58_r_l4_l2_j1 k x49 x50 x51 x64 x65 true h0_ h1_ h2_ h2__1 h2__2 h2__3 h2__4 h2__5 h2__6 h2__7 h2__8 h2__9 h2__10)
  (some (R58_r_l4_l2.o1 x49 x50 x51 x64 x65 false h0_ h1_ h2_ h2__1 h2__2 h2__3 h2__4 h2__5 h2__6 h2__7 h2__8 h2__9 h2__10))
theorem f58_r_l4_l2_b_ok (k:Nat) (x49:List T39) (x50 x51 x64 x65:Int) (h0_:List Bool) (h1_:List Int) (h2_ h2__1 h2__2 h2__3 h2__4 h2__5 h2__6 h2__7 h2__8 h2__9:Int) (h2__10:List Int) (r:R58_r_l4_l2) (hF:f58_r_l4_l2_b k x49 x50 x51 x64 x65 h0_ h1_ h2_ h2__1 h2__2 h2__3 h2__4 h2__5 h2__6 h2__7 h2__8 h2__9 h2__10 = some r) : EX 58 k (nav B58 [1,2,2,2,2,2,1,2,2,1,2,2,1,2,2,2,2]) (⟨78,[(9,.own 30000),(10,.own 30001),(12,.ptr 30002 0),(49,.sl 11 (rowsOf encT39 x49)),(50,.p (.int .i64 x50)),(51,.p (.int .i64 x51)),(64,.p (.int .i64 x64)),(65,.p (.int .i64 x65))],[(30000,.row true 1 4 (rowsOf encB h0_)),(30001,.row true 1 5 (rowsOf (encI .u8) h1_)),(30002,.box 39 [.p (.int .i64 h2_),.p (.int .i64 h2__1),.p (.int .u32 h2__2),.p (.int .i64 h2__3),.p (.int .i64 h2__4),.p (.int .i64 h2__5),.p (.int .i64 h2__6),.p (.int .i64 h2__7),.p (.int .i64 h2__8),.p (.int .i64 h2__9),.sl 1 (rowsOf (encI .u8) h2__10)])]⟩ : St) = some r.st := by
 unfold f58_r_l4_l2_b at hF
 simp (maxSteps:=999999) (disch:=first|exact D (by decide)|exact K (by kernel_rfl)) only [E,EE,↓reduceIte,simprocAttr,xk B58 [1,2,2,2,2,2,1,2,2,1,2,2,1,2,2,2,2] .sq rfl,rg B58 [1,1,2,2,2,2,2,1,2,2,1,2,2,1,2,2,2,2] 19 false rfl,hr_58_19,xk B58 [2,1,2,2,2,2,2,1,2,2,1,2,2,1,2,2,2,2] .sq rfl,xk B58 [1,2,1,2,2,2,2,2,1,2,2,1,2,2,1,2,2,2,2] (.cd 66) rfl]
 rcases cond_some hF with ⟨h1,hF⟩ | ⟨h1,hF⟩
 ·have hJ := f58_r_l4_l2_j1_ok k x49 x50 x51 x64 x65 true h0_ h1_ h2_ h2__1 h2__2 h2__3 h2__4 h2__5 h2__6 h2__7 h2__8 h2__9 h2__10 _ hF
  simp (maxSteps:=999999) (disch:=first|exact D (by decide)|exact K (by kernel_rfl)) only [E,EE,↓reduceIte,simprocAttr,xk B58 [2,1,2,1,2,2,2,2,2,1,2,2,1,2,2,1,2,2,2,2] .sk rfl,h1]
  try simp only [NM,EE] at hJ
  exact hJ
 ·cases hF
  simp (maxSteps:=999999) (disch:=first|exact D (by decide)|exact K (by kernel_rfl)) only [E,EE,↓reduceIte,simprocAttr,xk B58 [3,1,2,1,2,2,2,2,2,1,2,2,1,2,2,1,2,2,2,2] (.ex 6) rfl,R58_r_l4_l2.st,h1]
noncomputable def f58_r_l4_l2 (k:Nat) : Nat → (List T39) → Int → Int → Int → Int → (List Bool) → (List Int) → Int → Int → Int → Int → Int → Int → Int → Int → Int → Int → (List Int) → Option R58_r_l4_l2
 | 0,_,_,_,_,_,_,_,_,_,_,_,_,_,_,_,_,_,_ => none
 | n + 1,x49,x50,x51,x64,x65,h0_,h1_,h2_,h2__1,h2__2,h2__3,h2__4,h2__5,h2__6,h2__7,h2__8,h2__9,h2__10 => Option.bind (f58_r_l4_l2_b k x49 x50 x51 x64 x65 h0_ h1_ h2_ h2__1 h2__2 h2__3 h2__4 h2__5 h2__6 h2__7 h2__8 h2__9 h2__10) fun o =>
  match o with
  | .o0 y y_1 y_2 y_3 y_4 y_5 y_6 y_7 y_8 y_9 y_10 y_11 y_12 y_13 y_14 y_15 y_16 y_17 => f58_r_l4_l2 k n y y_1 y_2 y_3 y_4 y_5 y_6 y_7 y_8 y_9 y_10 y_11 y_12 y_13 y_14 y_15 y_16 y_17
  | .o1 y y_1 y_2 y_3 y_4 y_5 y_6 y_7 y_8 y_9 y_10 y_11 y_12 y_13 y_14 y_15 y_16 y_17 y_18 => some (.o1 y y_1 y_2 y_3 y_4 y_5 y_6 y_7 y_8 y_9 y_10 y_11 y_12 y_13 y_14 y_15 y_16 y_17 y_18)
theorem f58_r_l4_l2_ok (k n:Nat) : ∀ (x49:List T39) (x50 x51 x64 x65:Int) (h0_:List Bool) (h1_:List Int) (h2_ h2__1 h2__2 h2__3 h2__4 h2__5 h2__6 h2__7 h2__8 h2__9:Int) (h2__10:List Int) (r:R58_r_l4_l2) (hF:f58_r_l4_l2 k n x49 x50 x51 x64 x65 h0_ h1_ h2_ h2__1 h2__2 h2__3 h2__4 h2__5 h2__6 h2__7 h2__8 h2__9 h2__10 = some r) (σ:St) (hσ:headR (hints.head 58 19) (hints.canon 58 19) σ = some (⟨78,[(9,.own 30000),(10,.own 30001),(12,.ptr 30002 0),(49,.sl 11 (rowsOf encT39 x49)),(50,.p (.int .i64 x50)),(51,.p (.int .i64 x51)),(64,.p (.int .i64 x64)),(65,.p (.int .i64 x65))],[(30000,.row true 1 4 (rowsOf encB h0_)),(30001,.row true 1 5 (rowsOf (encI .u8) h1_)),(30002,.box 39 [.p (.int .i64 h2_),.p (.int .i64 h2__1),.p (.int .u32 h2__2),.p (.int .i64 h2__3),.p (.int .i64 h2__4),.p (.int .i64 h2__5),.p (.int .i64 h2__6),.p (.int .i64 h2__7),.p (.int .i64 h2__8),.p (.int .i64 h2__9),.sl 1 (rowsOf (encI .u8) h2__10)])]⟩ : St)),LP 58 k (nav B58 [1,2,2,2,2,2,1,2,2,1,2,2,1,2,2,2,2]) n σ = some r.st := by
 induction n with
 | zero => intro x49 x50 x51 x64 x65 h0_ h1_ h2_ h2__1 h2__2 h2__3 h2__4 h2__5 h2__6 h2__7 h2__8 h2__9 h2__10 r hF; cases hF
 | succ n ih =>
  intro x49 x50 x51 x64 x65 h0_ h1_ h2_ h2__1 h2__2 h2__3 h2__4 h2__5 h2__6 h2__7 h2__8 h2__9 h2__10 r hF σ hσ
  rw [f58_r_l4_l2] at hF
  obtain ⟨o,h,hF⟩ := Option.bind_eq_some_iff.1 hF
  have hB := f58_r_l4_l2_b_ok k x49 x50 x51 x64 x65 h0_ h1_ h2_ h2__1 h2__2 h2__3 h2__4 h2__5 h2__6 h2__7 h2__8 h2__9 h2__10 o h
  unfold LP at ih ⊢
  unfold EX at hB
  rw [loopK_succ,show firstReg (nav B58 [1,2,2,2,2,2,1,2,2,1,2,2,1,2,2,2,2]) = 19 from rfl,hσ,headK_some,hB]
  cases o with
  | o0 y y_1 y_2 y_3 y_4 y_5 y_6 y_7 y_8 y_9 y_10 y_11 y_12 y_13 y_14 y_15 y_16 y_17 =>
   refine ih y y_1 y_2 y_3 y_4 y_5 y_6 y_7 y_8 y_9 y_10 y_11 y_12 y_13 y_14 y_15 y_16 y_17 r hF _ ?_
   simp (maxSteps:=999999) (disch:=first|exact D (by decide)|exact K (by kernel_rfl)) only [E,EE,↓reduceIte,simprocAttr,hh_58_19,hc_58_19]
  | o1 y y_1 y_2 y_3 y_4 y_5 y_6 y_7 y_8 y_9 y_10 y_11 y_12 y_13 y_14 y_15 y_16 y_17 y_18 => cases hF; rfl
inductive R58_r_l4 where
 | o0 (y:List T39) (y_1 y_2:Int) (y_3:List Bool) (y_4:List Int)
 | o1 (y:List T39) (y_1 y_2:Int) (y_3:Bool) (y_4:List Bool) (y_5:List Int)
noncomputable def R58_r_l4.st : R58_r_l4 → Out × St
 | .o0 y y_1 y_2 y_3 y_4 => (.norm,(⟨78,[(9,.own 30000),(10,.own 30001),(49,.sl 11 (rowsOf encT39 y)),(50,.p (.int .i64 y_1)),(51,.p (.int .i64 y_2))],[(30000,.row true 1 4 (rowsOf encB y_3)),(30001,.row true 1 5 (rowsOf (encI .u8) y_4))]⟩ : St))
 | .o1 y y_1 y_2 y_3 y_4 y_5 => (.exit 4,(⟨78,[(9,.own 30000),(10,.own 30001),(49,.sl 11 (rowsOf encT39 y)),(50,.p (.int .i64 y_1)),(51,.p (.int .i64 y_2)),(52,.p (.bool y_3))],[(30000,.row true 1 4 (rowsOf encB y_4)),(30001,.row true 1 5 (rowsOf (encI .u8) y_5))]⟩ : St))
noncomputable def f58_r_l4_j3 (k:Nat) (x49:List T39) (x50 x51 x64 x65:Int) (x66:Bool) (h0_:List Bool) (h1_:List Int) (h2_ h2__1 h2__2 h2__3 h2__4 h2__5 h2__6 h2__7 h2__8 h2__9:Int) (h2__10:List Int) : Option R58_r_l4 :=
 some (R58_r_l4.o0 x49 x50 (IntKind.i64.wrap (x51 + (1:Int))) h0_ h1_)
theorem f58_r_l4_j3_ok (k:Nat) (x49:List T39) (x50 x51 x64 x65:Int) (x66:Bool) (h0_:List Bool) (h1_:List Int) (h2_ h2__1 h2__2 h2__3 h2__4 h2__5 h2__6 h2__7 h2__8 h2__9:Int) (h2__10:List Int) (r:R58_r_l4) (hF:f58_r_l4_j3 k x49 x50 x51 x64 x65 x66 h0_ h1_ h2_ h2__1 h2__2 h2__3 h2__4 h2__5 h2__6 h2__7 h2__8 h2__9 h2__10 = some r) : EX 58 k (nav B58 [2,2,2,1,2,2,1,2,2,2,2]) (⟨78,[(9,.own 30000),(10,.own 30001),(12,.ptr 30002 0),(49,.sl 11 (rowsOf encT39 x49)),(50,.p (.int .i64 x50)),(51,.p (.int .i64 x51)),(64,.p (.int .i64 x64)),(65,.p (.int .i64 x65)),(66,.p (.bool x66))],[(30000,.row true 1 4 (rowsOf encB h0_)),(30001,.row true 1 5 (rowsOf (encI .u8) h1_)),(30002,.box 39 [.p (.int .i64 h2_),.p (.int .i64 h2__1),.p (.int .u32 h2__2),.p (.int .i64 h2__3),.p (.int .i64 h2__4),.p (.int .i64 h2__5),.p (.int .i64 h2__6),.p (.int .i64 h2__7),.p (.int .i64 h2__8),.p (.int .i64 h2__9),.sl 1 (rowsOf (encI .u8) h2__10)])]⟩ : St) = some r.st := by
 unfold f58_r_l4_j3 at hF
 cases hF
 simp (maxSteps:=999999) (disch:=first|exact D (by decide)|exact K (by kernel_rfl)) only [E,EE,↓reduceIte,simprocAttr,rg B58 [2,2,2,1,2,2,1,2,2,2,2] 23 false rfl,hr_58_23,R58_r_l4.st]
noncomputable def f58_r_l4_j1 (k:Nat) (x49:List T39) (x50 x51:Int) (x52:Bool) (h0_:List Bool) (h1_:List Int) : Option R58_r_l4 :=
 ifE ((0:Int) ≤ x51) (
  Option.bind (x49[(Int.toNat x51)]?) fun v2 =>
   ifE ((0:Int) ≤ v2.Offset) (
    ifE ((Int.toNat v2.Offset) ≤ (List.length h1_)) (
     ifE (((Int.toNat v2.Offset) + ((List.length h1_) - (Int.toNat v2.Offset))) ≤ (List.length h1_)) (
      Option.bind (f58_r_l4_l2 k k x49 x50 x51 ((List.length v2.Payload) : Int) 0 h0_ (((List.take (Int.toNat v2.Offset) h1_) ++ ((List.take (((List.length h1_) - (Int.toNat v2.Offset))) v2.Payload) ++ (List.drop (((Int.toNat v2.Offset) + (List.length ((List.take (((List.length h1_) - (Int.toNat v2.Offset))) v2.Payload))))) h1_)))) v2.Source v2.Dest v2.Seq v2.Created v2.Lifetime v2.HopLimit v2.Hops v2.Priority v2.Offset v2.Total v2.Payload) fun o7 =>
       match o7 with
       | .o0 _ _ _ _ _ _ _ _ _ _ _ _ _ _ _ _ _ _ =>
        none
       | .o1 v10 v11 v12 v13 v14 v15 v16 v17 v18 v19 v20 v21 v22 v23 v24 v25 v26 v27 v28 =>
        f58_r_l4_j3 k v10 v11 v12 v13 v14 v15 v16 v17 v18 v19 v20 v21 v22 v23 v24 v25 v26 v27 v28))))
theorem f58_r_l4_j1_ok (k:Nat) (x49:List T39) (x50 x51:Int) (x52:Bool) (h0_:List Bool) (h1_:List Int) (r:R58_r_l4) (hF:f58_r_l4_j1 k x49 x50 x51 x52 h0_ h1_ = some r) : EX 58 k (nav B58 [2,2,1,2,2,1,2,2,2,2]) (⟨78,[(9,.own 30000),(10,.own 30001),(49,.sl 11 (rowsOf encT39 x49)),(50,.p (.int .i64 x50)),(51,.p (.int .i64 x51)),(52,.p (.bool x52))],[(30000,.row true 1 4 (rowsOf encB h0_)),(30001,.row true 1 5 (rowsOf (encI .u8) h1_))]⟩ : St) = some r.st := by
 unfold f58_r_l4_j1 at hF
 obtain ⟨h1,hF⟩ := ifE_some.1 hF
 obtain ⟨v2,h3,hF⟩ := bs hF
 obtain ⟨h4,hF⟩ := ifE_some.1 hF
 obtain ⟨h5,hF⟩ := ifE_some.1 hF
 obtain ⟨h6,hF⟩ := ifE_some.1 hF
 obtain ⟨o7,h8,hF⟩ := bs hF
 have hc9 := f58_r_l4_l2_ok k k x49 x50 x51 ((List.length v2.Payload) : Int) 0 h0_ (((List.take (Int.toNat v2.Offset) h1_) ++ ((List.take (((List.length h1_) - (Int.toNat v2.Offset))) v2.Payload) ++ (List.drop (((Int.toNat v2.Offset) + (List.length ((List.take (((List.length h1_) - (Int.toNat v2.Offset))) v2.Payload))))) h1_)))) v2.Source v2.Dest v2.Seq v2.Created v2.Lifetime v2.HopLimit v2.Hops v2.Priority v2.Offset v2.Total v2.Payload _ h8
 simp (maxSteps:=999999) (disch:=first|exact D (by decide)|exact K (by kernel_rfl)) only [E,EE,↓reduceIte,simprocAttr,xk B58 [2,2,1,2,2,1,2,2,2,2] .sq rfl,xk B58 [1,2,2,1,2,2,1,2,2,2,2] (.bk 5) rfl,xk B58 [2,1,2,2,1,2,2,1,2,2,2,2] .sq rfl,rg B58 [1,2,1,2,2,1,2,2,1,2,2,2,2] 16 false rfl,hr_58_16,indexAddrV,t_24,t_39,encT39_eq,xk B58 [2,2,1,2,2,1,2,2,1,2,2,2,2] .sq rfl,rg B58 [1,2,2,1,2,2,1,2,2,1,2,2,2,2] 17 true rfl,hr_58_17,fieldAddrV,t_3,sliceV,bound,t_29,t_5,copyV,content,xk B58 [2,2,2,1,2,2,1,2,2,1,2,2,2,2] .sq rfl,rg B58 [1,2,2,2,1,2,2,1,2,2,1,2,2,2,2] 18 false rfl,hr_58_18,xk B58 [2,2,2,2,1,2,2,1,2,2,1,2,2,2,2] (.bk 6) rfl,xk B58 [2,2,2,2,2,1,2,2,1,2,2,1,2,2,2,2] .lp rfl,hh_58_19,hc_58_19,h1,h3,h4,h5,h6]
 (try simp only [NM,EE] at hc9)
 rw [hc9 _ (by simp (maxSteps:=999999) (disch:=first|exact D (by decide)|exact K (by kernel_rfl)) only [E,EE,↓reduceIte,simprocAttr,hh_58_19,hc_58_19,h1,h3,h4,h5,h6])]
 clear hc9
 cases o7 with
 | o0 _ _ _ _ _ _ _ _ _ _ _ _ _ _ _ _ _ _ =>
  (try dsimp only at hF)
  cases hF
 | o1 v10 v11 v12 v13 v14 v15 v16 v17 v18 v19 v20 v21 v22 v23 v24 v25 v26 v27 v28 =>
  (try dsimp only at hF)
  have hJ := f58_r_l4_j3_ok k v10 v11 v12 v13 v14 v15 v16 v17 v18 v19 v20 v21 v22 v23 v24 v25 v26 v27 v28 _ hF
  simp (maxSteps:=999999) (disch:=first|exact D (by decide)|exact K (by kernel_rfl)) only [E,EE,↓reduceIte,simprocAttr,R58_r_l4_l2.st,h1,h3,h4,h5,h6]
  try simp only [NM,EE] at hJ
  exact hJ
noncomputable def f58_r_l4_b (k:Nat) (x49:List T39) (x50 x51:Int) (h0_:List Bool) (h1_:List Int) : Option R58_r_l4 :=
 cond ((decide (x51 < x50)))
  (f58_r_l4_j1 k x49 x50 x51 true h0_ h1_)
  (some (R58_r_l4.o1 x49 x50 x51 false h0_ h1_))
theorem f58_r_l4_b_ok (k:Nat) (x49:List T39) (x50 x51:Int) (h0_:List Bool) (h1_:List Int) (r:R58_r_l4) (hF:f58_r_l4_b k x49 x50 x51 h0_ h1_ = some r) : EX 58 k (nav B58 [1,2,2,1,2,2,2,2]) (⟨78,[(9,.own 30000),(10,.own 30001),(49,.sl 11 (rowsOf encT39 x49)),(50,.p (.int .i64 x50)),(51,.p (.int .i64 x51))],[(30000,.row true 1 4 (rowsOf encB h0_)),(30001,.row true 1 5 (rowsOf (encI .u8) h1_))]⟩ : St) = some r.st := by
 unfold f58_r_l4_b at hF
 simp (maxSteps:=999999) (disch:=first|exact D (by decide)|exact K (by kernel_rfl)) only [E,EE,↓reduceIte,simprocAttr,xk B58 [1,2,2,1,2,2,2,2] .sq rfl,rg B58 [1,1,2,2,1,2,2,2,2] 15 false rfl,hr_58_15,xk B58 [2,1,2,2,1,2,2,2,2] .sq rfl,xk B58 [1,2,1,2,2,1,2,2,2,2] (.cd 52) rfl]
 rcases cond_some hF with ⟨h1,hF⟩ | ⟨h1,hF⟩
 ·have hJ := f58_r_l4_j1_ok k x49 x50 x51 true h0_ h1_ _ hF
  simp (maxSteps:=999999) (disch:=first|exact D (by decide)|exact K (by kernel_rfl)) only [E,EE,↓reduceIte,simprocAttr,xk B58 [2,1,2,1,2,2,1,2,2,2,2] .sk rfl,h1]
  try simp only [NM,EE] at hJ
  exact hJ
 ·cases hF
  simp (maxSteps:=999999) (disch:=first|exact D (by decide)|exact K (by kernel_rfl)) only [E,EE,↓reduceIte,simprocAttr,xk B58 [3,1,2,1,2,2,1,2,2,2,2] (.ex 4) rfl,R58_r_l4.st,h1]
noncomputable def f58_r_l4 (k:Nat) : Nat → (List T39) → Int → Int → (List Bool) → (List Int) → Option R58_r_l4
 | 0,_,_,_,_,_ => none
 | n + 1,x49,x50,x51,h0_,h1_ => Option.bind (f58_r_l4_b k x49 x50 x51 h0_ h1_) fun o =>
  match o with
  | .o0 y y_1 y_2 y_3 y_4 => f58_r_l4 k n y y_1 y_2 y_3 y_4
  | .o1 y y_1 y_2 y_3 y_4 y_5 => some (.o1 y y_1 y_2 y_3 y_4 y_5)
theorem f58_r_l4_ok (k n:Nat) : ∀ (x49:List T39) (x50 x51:Int) (h0_:List Bool) (h1_:List Int) (r:R58_r_l4) (hF:f58_r_l4 k n x49 x50 x51 h0_ h1_ = some r) (σ:St) (hσ:headR (hints.head 58 15) (hints.canon 58 15) σ = some (⟨78,[(9,.own 30000),(10,.own 30001),(49,.sl 11 (rowsOf encT39 x49)),(50,.p (.int .i64 x50)),(51,.p (.int .i64 x51))],[(30000,.row true 1 4 (rowsOf encB h0_)),(30001,.row true 1 5 (rowsOf (encI .u8) h1_))]⟩ : St)),LP 58 k (nav B58 [1,2,2,1,2,2,2,2]) n σ = some r.st := by
 induction n with
 | zero => intro x49 x50 x51 h0_ h1_ r hF; cases hF
 | succ n ih =>
  intro x49 x50 x51 h0_ h1_ r hF σ hσ
  rw [f58_r_l4] at hF
  obtain ⟨o,h,hF⟩ := Option.bind_eq_some_iff.1 hF
  have hB := f58_r_l4_b_ok k x49 x50 x51 h0_ h1_ o h
  unfold LP at ih ⊢
  unfold EX at hB
  rw [loopK_succ,show firstReg (nav B58 [1,2,2,1,2,2,2,2]) = 15 from rfl,hσ,headK_some,hB]
  cases o with
  | o0 y y_1 y_2 y_3 y_4 =>
   refine ih y y_1 y_2 y_3 y_4 r hF _ ?_
   simp (maxSteps:=999999) (disch:=first|exact D (by decide)|exact K (by kernel_rfl)) only [E,EE,↓reduceIte,simprocAttr,hh_58_15,hc_58_15]
  | o1 y y_1 y_2 y_3 y_4 y_5 => cases hF; rfl
noncomputable def f58_r_j5 (k:Nat) (x49:List T39) (x50 x51:Int) (x52:Bool) (h0_:List Bool) (h1_:List Int) : Option R58_r :=
 some (R58_r.o1 0 h0_ h1_)
theorem f58_r_j5_ok (k:Nat) (x49:List T39) (x50 x51:Int) (x52:Bool) (h0_:List Bool) (h1_:List Int) (r:R58_r) (hF:f58_r_j5 k x49 x50 x51 x52 h0_ h1_ = some r) : finK Try.prog Try.f58 0 (EX 58 k (nav B58 [2,2,2,2,2]) (⟨78,[(9,.own 30000),(10,.own 30001),(49,.sl 11 (rowsOf encT39 x49)),(50,.p (.int .i64 x50)),(51,.p (.int .i64 x51)),(52,.p (.bool x52))],[(30000,.row true 1 4 (rowsOf encB h0_)),(30001,.row true 1 5 (rowsOf (encI .u8) h1_))]⟩ : St)) = some r.st := by
 unfold f58_r_j5 at hF
 cases hF
 simp (maxSteps:=999999) (disch:=first|exact D (by decide)|exact K (by kernel_rfl)) only [E,EE,↓reduceIte,simprocAttr,xk B58 [2,2,2,2,2] .sq rfl,rg B58 [1,2,2,2,2,2] 24 false rfl,hr_58_24,xk B58 [2,2,2,2,2,2] .rt rfl,finK_norm,finK_ret,fin58,R58_r.st]
noncomputable def f58_r_j3 (k:Nat) (x0:List T39) (x38:Bool) : Option R58_r :=
 Option.bind (x0[0]?) fun v1 =>
  ifE ((0:Int) ≤ v1.Total) (
   ifE (v1.Total ≤ v1.Total) (
    ifE ((v1.Total : Int) * 1 ≤ (roomy:Int)) (
     Option.bind (f58_r_l4 k k x0 ((List.length x0) : Int) 0 ((List.replicate (Int.toNat v1.Total) (false:Bool))) ((List.replicate (Int.toNat v1.Total) (0:Int)))) fun o8 =>
      match o8 with
      | .o0 _ _ _ _ _ =>
       none
      | .o1 v11 v12 v13 v14 v15 v16 =>
       f58_r_j5 k v11 v12 v13 v14 v15 v16)))
theorem f58_r_j3_ok (k:Nat) (x0:List T39) (x38:Bool) (r:R58_r) (hF:f58_r_j3 k x0 x38 = some r) : finK Try.prog Try.f58 0 (EX 58 k (nav B58 [2,2,2]) (⟨78,[(0,.sl 11 (rowsOf encT39 x0)),(38,.p (.bool x38))],[]⟩ : St)) = some r.st := by
 unfold f58_r_j3 at hF
 obtain ⟨v1,h2,hF⟩ := bs hF
 obtain ⟨h3,hF⟩ := ifE_some.1 hF
 obtain ⟨h4,hF⟩ := ifE_some.1 hF
 obtain ⟨h5,hF⟩ := ifE_some.1 hF
 have q6 : List.replicate (Int.toNat v1.Total) [.p (.bool false)] = rowsOf encB (List.replicate (Int.toNat v1.Total) (false:Bool)) := (rowsOf_replicate (enc := encB) (n := (Int.toNat v1.Total)) (x := (false:Bool))).symm
 have q7 : List.replicate (Int.toNat v1.Total) [.p (.int .u8 0)] = rowsOf (encI .u8) (List.replicate (Int.toNat v1.Total) (0:Int)) := (rowsOf_replicate (enc := (encI .u8)) (n := (Int.toNat v1.Total)) (x := (0:Int))).symm
 obtain ⟨o8,h9,hF⟩ := bs hF
 have hc10 := f58_r_l4_ok k k x0 ((List.length x0) : Int) 0 ((List.replicate (Int.toNat v1.Total) (false:Bool))) ((List.replicate (Int.toNat v1.Total) (0:Int))) _ h9
 simp (maxSteps:=999999) (disch:=first|exact D (by decide)|exact K (by kernel_rfl)) only [E,EE,↓reduceIte,simprocAttr,xk B58 [2,2,2] .sq rfl,rg B58 [1,2,2,2] 13 true rfl,hr_58_13,indexAddrV,t_24,t_39,encT39_eq,fieldAddrV,t_3,makeV,intArg,sm_4,t_90,t_4,sm_5,t_29,t_5,xk B58 [2,2,2,2] .sq rfl,xk B58 [1,2,2,2,2] .sq rfl,rg B58 [1,1,2,2,2,2] 14 false rfl,hr_58_14,xk B58 [2,1,2,2,2,2] (.bk 4) rfl,xk B58 [2,2,1,2,2,2,2] .lp rfl,hh_58_15,hc_58_15,h2,h3,h4,h5,q6,q7]
 (try simp only [NM,EE] at hc10)
 rw [hc10 _ (by simp (maxSteps:=999999) (disch:=first|exact D (by decide)|exact K (by kernel_rfl)) only [E,EE,↓reduceIte,simprocAttr,hh_58_15,hc_58_15,h2,h3,h4,h5,q6,q7])]
 clear hc10
 cases o8 with
 | o0 _ _ _ _ _ =>
  (try dsimp only at hF)
  cases hF
 | o1 v11 v12 v13 v14 v15 v16 =>
  (try dsimp only at hF)
  have hJ := f58_r_j5_ok k v11 v12 v13 v14 v15 v16 _ hF
  simp (maxSteps:=999999) (disch:=first|exact D (by decide)|exact K (by kernel_rfl)) only [E,EE,↓reduceIte,simprocAttr,R58_r_l4.st,h2,h3,h4,h5,q6,q7]
  try simp only [NM,EE] at hJ
  exact hJ
noncomputable def f58_r_j2 (k:Nat) (x0 x14:List T39) (x15 x16:Int) (x17:Bool) : Option R58_r :=
 cond ((((List.length x0) : Int) == 0))
  (some (R58_r.o0 [] [] 280))
  (f58_r_j3 k x0 false)
theorem f58_r_j2_ok (k:Nat) (x0 x14:List T39) (x15 x16:Int) (x17:Bool) (r:R58_r) (hF:f58_r_j2 k x0 x14 x15 x16 x17 = some r) : finK Try.prog Try.f58 0 (EX 58 k (nav B58 [2,2]) (⟨78,[(0,.sl 11 (rowsOf encT39 x0)),(14,.sl 11 (rowsOf encT39 x14)),(15,.p (.int .i64 x15)),(16,.p (.int .i64 x16)),(17,.p (.bool x17))],[]⟩ : St)) = some r.st := by
 unfold f58_r_j2 at hF
 simp (maxSteps:=999999) (disch:=first|exact D (by decide)|exact K (by kernel_rfl)) only [E,EE,↓reduceIte,simprocAttr,xk B58 [2,2] .sq rfl,xk B58 [1,2,2] .sq rfl,rg B58 [1,1,2,2] 11 false rfl,hr_58_11,t_24,xk B58 [2,1,2,2] (.cd 38) rfl]
 rcases cond_some hF with ⟨h1,hF⟩ | ⟨h1,hF⟩
 ·cases hF
  simp (maxSteps:=999999) (disch:=first|exact D (by decide)|exact K (by kernel_rfl)) only [E,EE,↓reduceIte,simprocAttr,xk B58 [2,2,1,2,2] .sq rfl,rg B58 [1,2,2,1,2,2] 12 false rfl,hr_58_12,xk B58 [2,2,2,1,2,2] .rt rfl,finK_norm,finK_ret,fin58,R58_r.st,h1]
 ·have hJ := f58_r_j3_ok k x0 false _ hF
  simp (maxSteps:=999999) (disch:=first|exact D (by decide)|exact K (by kernel_rfl)) only [E,EE,↓reduceIte,simprocAttr,xk B58 [3,2,1,2,2] .sk rfl,h1]
  try simp only [NM,EE] at hJ
  exact hJ
noncomputable def f58_r_e (k:Nat) (a0:List T39) : Option R58_r :=
 Option.bind (f58_r_l1 k k a0 a0 ((List.length a0) : Int) 0) fun o1 =>
  match o1 with
  | .o0 v4 v5 v6 =>
   some (R58_r.o0 v4 v5 v6)
  | .o1 _ _ _ _ =>
   none
  | .o2 v7 v8 v9 v10 v11 =>
   f58_r_j2 k v7 v8 v9 v10 v11
theorem f58_r_e_ok (k:Nat) (a0:List T39) (r:R58_r) (hF:f58_r_e k a0 = some r) : finK Try.prog Try.f58 0 (EX 58 k (nav B58 []) (⟨78,[(0,.sl 11 (rowsOf encT39 a0))],[]⟩ : St)) = some r.st := by
 unfold f58_r_e at hF
 obtain ⟨o1,h2,hF⟩ := bs hF
 have hc3 := f58_r_l1_ok k k a0 a0 ((List.length a0) : Int) 0 _ h2
 simp (maxSteps:=999999) (disch:=first|exact D (by decide)|exact K (by kernel_rfl)) only [E,EE,↓reduceIte,simprocAttr,xk B58 [] .sq rfl,rg B58 [1] 0 false rfl,hr_58_0,xk B58 [2] .sq rfl,xk B58 [1,2] .sq rfl,rg B58 [1,1,2] 1 false rfl,hr_58_1,t_24,xk B58 [2,1,2] (.bk 0) rfl,xk B58 [2,2,1,2] .lp rfl,hh_58_2,hc_58_2]
 (try simp only [NM,EE] at hc3)
 rw [hc3 _ (by simp (maxSteps:=999999) (disch:=first|exact D (by decide)|exact K (by kernel_rfl)) only [E,EE,↓reduceIte,simprocAttr,hh_58_2,hc_58_2])]
 clear hc3
 cases o1 with
 | o0 v4 v5 v6 =>
  (try dsimp only at hF)
  cases hF
  simp (maxSteps:=999999) (disch:=first|exact D (by decide)|exact K (by kernel_rfl)) only [E,EE,↓reduceIte,simprocAttr,R58_r_l1.st,finK_norm,finK_ret,fin58,R58_r.st]
 | o1 _ _ _ _ =>
  (try dsimp only at hF)
  cases hF
 | o2 v7 v8 v9 v10 v11 =>
  (try dsimp only at hF)
  have hJ := f58_r_j2_ok k v7 v8 v9 v10 v11 _ hF
  simp (maxSteps:=999999) (disch:=first|exact D (by decide)|exact K (by kernel_rfl)) only [E,EE,↓reduceIte,simprocAttr,R58_r_l1.st]
  try simp only [NM,EE] at hJ
  exact hJ
noncomputable def f58_r (k:Nat) (a0:List T39) : Option R58_r := match k with | 0 => none | k + 1 => f58_r_e k a0
theorem f58_r_ok (k:Nat) (a0:List T39) (r:R58_r) (hF:f58_r k a0 = some r) : CV k 58 [.sl 11 (rowsOf encT39 a0)] [] = some r.st := by
 cases k with
 | zero => cases hF
 | succ k =>
  unfold CV
  rw [ev_call (F := Try.f58) (c := (nav B58 [])) rfl Try.func58 rfl rfl rfl rfl]
  exact f58_r_e_ok k a0 r hF
end Go.Proofs.YticggdfaehneeaaV