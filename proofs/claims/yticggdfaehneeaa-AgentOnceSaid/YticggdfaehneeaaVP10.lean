/- What the program's functions answer: plain functions,and that the interpreter answers what they do. Written by a program of this session,out of the translation. -/
import Derived.Test.YticggdfaehneeaaVP9
namespace Go.Proofs.YticggdfaehneeaaV
open Go
set_option linter.unusedVariables false
set_option linter.unusedSimpArgs false
set_option maxRecDepth 8000
set_option maxHeartbeats 4000000
-- f61_oF57p_wbiiiiiiiiiir: f61 slices.IndexFunc[[]heliograph/api.Bundle,heliograph/api.Bundle]
inductive R61_oF57p_wbiiiiiiiiiir where
 | o0 (y:Int) (y_1:List T39) (y_2 y_3 y_4 y_5 y_6 y_7 y_8 y_9 y_10 y_11:Int) (y_12:List Int)
noncomputable def R61_oF57p_wbiiiiiiiiiir.st : R61_oF57p_wbiiiiiiiiiir → V × List O × List O
 | .o0 y y_1 y_2 y_3 y_4 y_5 y_6 y_7 y_8 y_9 y_10 y_11 y_12 => (.p (.int .i64 y),[.row true 11 39 (rowsOf encT39 y_1),.box 39 [.p (.int .i64 y_2),.p (.int .i64 y_3),.p (.int .u32 y_4),.p (.int .i64 y_5),.p (.int .i64 y_6),.p (.int .i64 y_7),.p (.int .i64 y_8),.p (.int .i64 y_9),.p (.int .i64 y_10),.p (.int .i64 y_11),.sl 1 (rowsOf (encI .u8) y_12)]],[])
inductive R61_oF57p_wbiiiiiiiiiir_l1 where
 | o0 (y:Int) (y_1:List T39) (y_2 y_3 y_4 y_5 y_6 y_7 y_8 y_9 y_10 y_11:Int) (y_12:List Int)
 | o1 (y y_1:Int) (y_2:List T39) (y_3 y_4 y_5 y_6 y_7 y_8 y_9 y_10 y_11 y_12:Int) (y_13:List Int)
 | o2 (y y_1:Int) (y_2:Bool) (y_3:List T39) (y_4 y_5 y_6 y_7 y_8 y_9 y_10 y_11 y_12 y_13:Int) (y_14:List Int)
noncomputable def R61_oF57p_wbiiiiiiiiiir_l1.st : R61_oF57p_wbiiiiiiiiiir_l1 → Out × St
 | .o0 y y_1 y_2 y_3 y_4 y_5 y_6 y_7 y_8 y_9 y_10 y_11 y_12 => (.ret,(⟨19,[(4,.p (.int .i64 y))],[(1000000,.row true 11 39 (rowsOf encT39 y_1)),(1000001,.box 39 [.p (.int .i64 y_2),.p (.int .i64 y_3),.p (.int .u32 y_4),.p (.int .i64 y_5),.p (.int .i64 y_6),.p (.int .i64 y_7),.p (.int .i64 y_8),.p (.int .i64 y_9),.p (.int .i64 y_10),.p (.int .i64 y_11),.sl 1 (rowsOf (encI .u8) y_12)])]⟩ : St))
 | .o1 y y_1 y_2 y_3 y_4 y_5 y_6 y_7 y_8 y_9 y_10 y_11 y_12 y_13 => (.norm,(⟨19,[(0,.own 1000000),(1,V.fn 57 [.ptr 1000001 0]),(7,.p (.int .i64 y)),(8,.p (.int .i64 y_1))],[(1000000,.row true 11 39 (rowsOf encT39 y_2)),(1000001,.box 39 [.p (.int .i64 y_3),.p (.int .i64 y_4),.p (.int .u32 y_5),.p (.int .i64 y_6),.p (.int .i64 y_7),.p (.int .i64 y_8),.p (.int .i64 y_9),.p (.int .i64 y_10),.p (.int .i64 y_11),.p (.int .i64 y_12),.sl 1 (rowsOf (encI .u8) y_13)])]⟩ : St))
 | .o2 y y_1 y_2 y_3 y_4 y_5 y_6 y_7 y_8 y_9 y_10 y_11 y_12 y_13 y_14 => (.exit 0,(⟨19,[(0,.own 1000000),(1,V.fn 57 [.ptr 1000001 0]),(7,.p (.int .i64 y)),(8,.p (.int .i64 y_1)),(9,.p (.bool y_2))],[(1000000,.row true 11 39 (rowsOf encT39 y_3)),(1000001,.box 39 [.p (.int .i64 y_4),.p (.int .i64 y_5),.p (.int .u32 y_6),.p (.int .i64 y_7),.p (.int .i64 y_8),.p (.int .i64 y_9),.p (.int .i64 y_10),.p (.int .i64 y_11),.p (.int .i64 y_12),.p (.int .i64 y_13),.sl 1 (rowsOf (encI .u8) y_14)])]⟩ : St))
noncomputable def f61_oF57p_wbiiiiiiiiiir_l1_j2 (k:Nat) (x5 x7 x8:Int) (x16:Bool) (e0:List T39) (e1 e1_1 e1_2 e1_3 e1_4 e1_5 e1_6 e1_7 e1_8 e1_9:Int) (e1_10:List Int) : Option R61_oF57p_wbiiiiiiiiiir_l1 :=
 some (R61_oF57p_wbiiiiiiiiiir_l1.o1 x7 (IntKind.i64.wrap (x8 + (1:Int))) e0 e1 e1_1 e1_2 e1_3 e1_4 e1_5 e1_6 e1_7 e1_8 e1_9 e1_10)
theorem f61_oF57p_wbiiiiiiiiiir_l1_j2_ok (k:Nat) (x5 x7 x8:Int) (x16:Bool) (e0:List T39) (e1 e1_1 e1_2 e1_3 e1_4 e1_5 e1_6 e1_7 e1_8 e1_9:Int) (e1_10:List Int) (r:R61_oF57p_wbiiiiiiiiiir_l1) (hF:f61_oF57p_wbiiiiiiiiiir_l1_j2 k x5 x7 x8 x16 e0 e1 e1_1 e1_2 e1_3 e1_4 e1_5 e1_6 e1_7 e1_8 e1_9 e1_10 = some r) : EX 61 k (nav B61 [2,2,2,1,2,2,1,2]) (⟨19,[(0,.own 1000000),(1,V.fn 57 [.ptr 1000001 0]),(5,.p (.int .i64 x5)),(7,.p (.int .i64 x7)),(8,.p (.int .i64 x8)),(16,.p (.bool x16))],[(1000000,.row true 11 39 (rowsOf encT39 e0)),(1000001,.box 39 [.p (.int .i64 e1),.p (.int .i64 e1_1),.p (.int .u32 e1_2),.p (.int .i64 e1_3),.p (.int .i64 e1_4),.p (.int .i64 e1_5),.p (.int .i64 e1_6),.p (.int .i64 e1_7),.p (.int .i64 e1_8),.p (.int .i64 e1_9),.sl 1 (rowsOf (encI .u8) e1_10)])]⟩ : St) = some r.st := by
 unfold f61_oF57p_wbiiiiiiiiiir_l1_j2 at hF
 cases hF
 simp (maxSteps:=999999) (disch:=first|exact D (by decide)|exact K (by kernel_rfl)) only [E,EE,↓reduceIte,simprocAttr,rg B61 [2,2,2,1,2,2,1,2] 6 false rfl,hr_61_6,R61_oF57p_wbiiiiiiiiiir_l1.st]
noncomputable def f61_oF57p_wbiiiiiiiiiir_l1_j1 (k:Nat) (x7 x8:Int) (x9:Bool) (e0:List T39) (e1 e1_1 e1_2 e1_3 e1_4 e1_5 e1_6 e1_7 e1_8 e1_9:Int) (e1_10:List Int) : Option R61_oF57p_wbiiiiiiiiiir_l1 :=
 ifE ((0:Int) ≤ x8) (
  ifE (x8 < ((List.length e0) : Int)) (
   Option.bind (e0[(Int.toNat x8)]?) fun v3 =>
    Option.bind (f57_ai10rzp_biiiiiiiiiir k v3.Source v3.Dest v3.Seq v3.Created v3.Lifetime v3.HopLimit v3.Hops v3.Priority v3.Offset v3.Total v3.Payload e1 e1_1 e1_2 e1_3 e1_4 e1_5 e1_6 e1_7 e1_8 e1_9 e1_10) fun o5 =>
     match o5 with
     | .o0 v8 v9 v10 v11 v12 v13 v14 v15 v16 v17 v18 v19 =>
      cond (v8)
       (some (R61_oF57p_wbiiiiiiiiiir_l1.o0 x8 e0 v9 v10 v11 v12 v13 v14 v15 v16 v17 v18 v19))
       (f61_oF57p_wbiiiiiiiiiir_l1_j2 k x8 x7 x8 false e0 v9 v10 v11 v12 v13 v14 v15 v16 v17 v18 v19)))
theorem f61_oF57p_wbiiiiiiiiiir_l1_j1_ok (k:Nat) (x7 x8:Int) (x9:Bool) (e0:List T39) (e1 e1_1 e1_2 e1_3 e1_4 e1_5 e1_6 e1_7 e1_8 e1_9:Int) (e1_10:List Int) (r:R61_oF57p_wbiiiiiiiiiir_l1) (hF:f61_oF57p_wbiiiiiiiiiir_l1_j1 k x7 x8 x9 e0 e1 e1_1 e1_2 e1_3 e1_4 e1_5 e1_6 e1_7 e1_8 e1_9 e1_10 = some r) : EX 61 k (nav B61 [2,2,1,2,2,1,2]) (⟨19,[(0,.own 1000000),(1,V.fn 57 [.ptr 1000001 0]),(7,.p (.int .i64 x7)),(8,.p (.int .i64 x8)),(9,.p (.bool x9))],[(1000000,.row true 11 39 (rowsOf encT39 e0)),(1000001,.box 39 [.p (.int .i64 e1),.p (.int .i64 e1_1),.p (.int .u32 e1_2),.p (.int .i64 e1_3),.p (.int .i64 e1_4),.p (.int .i64 e1_5),.p (.int .i64 e1_6),.p (.int .i64 e1_7),.p (.int .i64 e1_8),.p (.int .i64 e1_9),.sl 1 (rowsOf (encI .u8) e1_10)])]⟩ : St) = some r.st := by
 unfold f61_oF57p_wbiiiiiiiiiir_l1_j1 at hF
 obtain ⟨h1,hF⟩ := ifE_some.1 hF
 obtain ⟨h2,hF⟩ := ifE_some.1 hF
 obtain ⟨v3,h4,hF⟩ := bs hF
 obtain ⟨o5,h6,hF⟩ := bs hF
 have hc7 := f57_ai10rzp_biiiiiiiiiir_ok k v3.Source v3.Dest v3.Seq v3.Created v3.Lifetime v3.HopLimit v3.Hops v3.Priority v3.Offset v3.Total v3.Payload e1 e1_1 e1_2 e1_3 e1_4 e1_5 e1_6 e1_7 e1_8 e1_9 e1_10 _ h6
 cases o5 with
 | o0 v8 v9 v10 v11 v12 v13 v14 v15 v16 v17 v18 v19 =>
  (try dsimp only at hF)
  (try simp only [NM,EE,R57_ai10rzp_biiiiiiiiiir.st] at hc7)
  simp (maxSteps:=999999) (disch:=first|exact D (by decide)|exact K (by kernel_rfl)) only [E,EE,↓reduceIte,simprocAttr,xk B61 [2,2,1,2,2,1,2] .sq rfl,xk B61 [1,2,2,1,2,2,1,2] (.bk 1) rfl,xk B61 [2,1,2,2,1,2,2,1,2] .sq rfl,rg B61 [1,2,1,2,2,1,2,2,1,2] 3 false rfl,hr_61_3,xk B61 [2,2,1,2,2,1,2,2,1,2] .sq rfl,rg B61 [1,2,2,1,2,2,1,2,2,1,2] 4 false rfl,hr_61_4,indexAddrV,t_24,t_39,encT39_eq,callStep,CL,gv,List.contains,xk B61 [2,2,2,1,2,2,1,2,2,1,2] (.cd 16) rfl,h1,h2,h4,hc7]
  rcases cond_some hF with ⟨h20,hF⟩ | ⟨h20,hF⟩
  ·cases hF
   simp (maxSteps:=999999) (disch:=first|exact D (by decide)|exact K (by kernel_rfl)) only [E,EE,↓reduceIte,simprocAttr,xk B61 [2,2,2,2,1,2,2,1,2,2,1,2] .sq rfl,rg B61 [1,2,2,2,2,1,2,2,1,2,2,1,2] 5 false rfl,hr_61_5,xk B61 [2,2,2,2,2,1,2,2,1,2,2,1,2] .rt rfl,R61_oF57p_wbiiiiiiiiiir_l1.st,h1,h2,h4,hc7,h20]
  ·have hJ := f61_oF57p_wbiiiiiiiiiir_l1_j2_ok k x8 x7 x8 false e0 v9 v10 v11 v12 v13 v14 v15 v16 v17 v18 v19 _ hF
   simp (maxSteps:=999999) (disch:=first|exact D (by decide)|exact K (by kernel_rfl)) only [E,EE,↓reduceIte,simprocAttr,xk B61 [3,2,2,2,1,2,2,1,2,2,1,2] .sk rfl,h1,h2,h4,hc7,h20]
   try simp only [NM,EE] at hJ
   exact hJ
noncomputable def f61_oF57p_wbiiiiiiiiiir_l1_b (k:Nat) (x7 x8:Int) (e0:List T39) (e1 e1_1 e1_2 e1_3 e1_4 e1_5 e1_6 e1_7 e1_8 e1_9:Int) (e1_10:List Int) : Option R61_oF57p_wbiiiiiiiiiir_l1 :=
 cond ((decide (x8 < x7)))
  (f61_oF57p_wbiiiiiiiiiir_l1_j1 k x7 x8 true e0 e1 e1_1 e1_2 e1_3 e1_4 e1_5 e1_6 e1_7 e1_8 e1_9 e1_10)
  (some (R61_oF57p_wbiiiiiiiiiir_l1.o2 x7 x8 false e0 e1 e1_1 e1_2 e1_3 e1_4 e1_5 e1_6 e1_7 e1_8 e1_9 e1_10))
theorem f61_oF57p_wbiiiiiiiiiir_l1_b_ok (k:Nat) (x7 x8:Int) (e0:List T39) (e1 e1_1 e1_2 e1_3 e1_4 e1_5 e1_6 e1_7 e1_8 e1_9:Int) (e1_10:List Int) (r:R61_oF57p_wbiiiiiiiiiir_l1) (hF:f61_oF57p_wbiiiiiiiiiir_l1_b k x7 x8 e0 e1 e1_1 e1_2 e1_3 e1_4 e1_5 e1_6 e1_7 e1_8 e1_9 e1_10 = some r) : EX 61 k (nav B61 [1,2,2,1,2]) (⟨19,[(0,.own 1000000),(1,V.fn 57 [.ptr 1000001 0]),(7,.p (.int .i64 x7)),(8,.p (.int .i64 x8))],[(1000000,.row true 11 39 (rowsOf encT39 e0)),(1000001,.box 39 [.p (.int .i64 e1),.p (.int .i64 e1_1),.p (.int .u32 e1_2),.p (.int .i64 e1_3),.p (.int .i64 e1_4),.p (.int .i64 e1_5),.p (.int .i64 e1_6),.p (.int .i64 e1_7),.p (.int .i64 e1_8),.p (.int .i64 e1_9),.sl 1 (rowsOf (encI .u8) e1_10)])]⟩ : St) = some r.st := by
 unfold f61_oF57p_wbiiiiiiiiiir_l1_b at hF
 simp (maxSteps:=999999) (disch:=first|exact D (by decide)|exact K (by kernel_rfl)) only [E,EE,↓reduceIte,simprocAttr,xk B61 [1,2,2,1,2] .sq rfl,rg B61 [1,1,2,2,1,2] 2 false rfl,hr_61_2,xk B61 [2,1,2,2,1,2] .sq rfl,xk B61 [1,2,1,2,2,1,2] (.cd 9) rfl]
 rcases cond_some hF with ⟨h1,hF⟩ | ⟨h1,hF⟩
 ·have hJ := f61_oF57p_wbiiiiiiiiiir_l1_j1_ok k x7 x8 true e0 e1 e1_1 e1_2 e1_3 e1_4 e1_5 e1_6 e1_7 e1_8 e1_9 e1_10 _ hF
  simp (maxSteps:=999999) (disch:=first|exact D (by decide)|exact K (by kernel_rfl)) only [E,EE,↓reduceIte,simprocAttr,xk B61 [2,1,2,1,2,2,1,2] .sk rfl,h1]
  try simp only [NM,EE] at hJ
  exact hJ
 ·cases hF
  simp (maxSteps:=999999) (disch:=first|exact D (by decide)|exact K (by kernel_rfl)) only [E,EE,↓reduceIte,simprocAttr,xk B61 [3,1,2,1,2,2,1,2] (.ex 0) rfl,R61_oF57p_wbiiiiiiiiiir_l1.st,h1]
noncomputable def f61_oF57p_wbiiiiiiiiiir_l1 (k:Nat) : Nat → Int → Int → (List T39) → Int → Int → Int → Int → Int → Int → Int → Int → Int → Int → (List Int) → Option R61_oF57p_wbiiiiiiiiiir_l1
 | 0,_,_,_,_,_,_,_,_,_,_,_,_,_,_ => none
 | n + 1,x7,x8,e0,e1,e1_1,e1_2,e1_3,e1_4,e1_5,e1_6,e1_7,e1_8,e1_9,e1_10 => Option.bind (f61_oF57p_wbiiiiiiiiiir_l1_b k x7 x8 e0 e1 e1_1 e1_2 e1_3 e1_4 e1_5 e1_6 e1_7 e1_8 e1_9 e1_10) fun o =>
  match o with
  | .o0 y y_1 y_2 y_3 y_4 y_5 y_6 y_7 y_8 y_9 y_10 y_11 y_12 => some (.o0 y y_1 y_2 y_3 y_4 y_5 y_6 y_7 y_8 y_9 y_10 y_11 y_12)
  | .o1 y y_1 y_2 y_3 y_4 y_5 y_6 y_7 y_8 y_9 y_10 y_11 y_12 y_13 => f61_oF57p_wbiiiiiiiiiir_l1 k n y y_1 y_2 y_3 y_4 y_5 y_6 y_7 y_8 y_9 y_10 y_11 y_12 y_13
  | .o2 y y_1 y_2 y_3 y_4 y_5 y_6 y_7 y_8 y_9 y_10 y_11 y_12 y_13 y_14 => some (.o2 y y_1 y_2 y_3 y_4 y_5 y_6 y_7 y_8 y_9 y_10 y_11 y_12 y_13 y_14)
theorem f61_oF57p_wbiiiiiiiiiir_l1_ok (k n:Nat) : ∀ (x7 x8:Int) (e0:List T39) (e1 e1_1 e1_2 e1_3 e1_4 e1_5 e1_6 e1_7 e1_8 e1_9:Int) (e1_10:List Int) (r:R61_oF57p_wbiiiiiiiiiir_l1) (hF:f61_oF57p_wbiiiiiiiiiir_l1 k n x7 x8 e0 e1 e1_1 e1_2 e1_3 e1_4 e1_5 e1_6 e1_7 e1_8 e1_9 e1_10 = some r) (σ:St) (hσ:headR (hints.head 61 2) (hints.canon 61 2) σ = some (⟨19,[(0,.own 1000000),(1,V.fn 57 [.ptr 1000001 0]),(7,.p (.int .i64 x7)),(8,.p (.int .i64 x8))],[(1000000,.row true 11 39 (rowsOf encT39 e0)),(1000001,.box 39 [.p (.int .i64 e1),.p (.int .i64 e1_1),.p (.int .u32 e1_2),.p (.int .i64 e1_3),.p (.int .i64 e1_4),.p (.int .i64 e1_5),.p (.int .i64 e1_6),.p (.int .i64 e1_7),.p (.int .i64 e1_8),.p (.int .i64 e1_9),.sl 1 (rowsOf (encI .u8) e1_10)])]⟩ : St)),LP 61 k (nav B61 [1,2,2,1,2]) n σ = some r.st := by
 induction n with
 | zero => intro x7 x8 e0 e1 e1_1 e1_2 e1_3 e1_4 e1_5 e1_6 e1_7 e1_8 e1_9 e1_10 r hF; cases hF
 | succ n ih =>
  intro x7 x8 e0 e1 e1_1 e1_2 e1_3 e1_4 e1_5 e1_6 e1_7 e1_8 e1_9 e1_10 r hF σ hσ
  rw [f61_oF57p_wbiiiiiiiiiir_l1] at hF
  obtain ⟨o,h,hF⟩ := Option.bind_eq_some_iff.1 hF
  have hB := f61_oF57p_wbiiiiiiiiiir_l1_b_ok k x7 x8 e0 e1 e1_1 e1_2 e1_3 e1_4 e1_5 e1_6 e1_7 e1_8 e1_9 e1_10 o h
  unfold LP at ih ⊢
  unfold EX at hB
  rw [loopK_succ,show firstReg (nav B61 [1,2,2,1,2]) = 2 from rfl,hσ,headK_some,hB]
  cases o with
  | o0 y y_1 y_2 y_3 y_4 y_5 y_6 y_7 y_8 y_9 y_10 y_11 y_12 => cases hF; rfl
  | o1 y y_1 y_2 y_3 y_4 y_5 y_6 y_7 y_8 y_9 y_10 y_11 y_12 y_13 =>
   refine ih y y_1 y_2 y_3 y_4 y_5 y_6 y_7 y_8 y_9 y_10 y_11 y_12 y_13 r hF _ ?_
   simp (maxSteps:=999999) (disch:=first|exact D (by decide)|exact K (by kernel_rfl)) only [E,EE,↓reduceIte,simprocAttr,hh_61_2,hc_61_2]
  | o2 y y_1 y_2 y_3 y_4 y_5 y_6 y_7 y_8 y_9 y_10 y_11 y_12 y_13 y_14 => cases hF; rfl
noncomputable def f61_oF57p_wbiiiiiiiiiir_j2 (k:Nat) (x7 x8:Int) (x9:Bool) (e0:List T39) (e1 e1_1 e1_2 e1_3 e1_4 e1_5 e1_6 e1_7 e1_8 e1_9:Int) (e1_10:List Int) : Option R61_oF57p_wbiiiiiiiiiir :=
 some (R61_oF57p_wbiiiiiiiiiir.o0 (-1) e0 e1 e1_1 e1_2 e1_3 e1_4 e1_5 e1_6 e1_7 e1_8 e1_9 e1_10)
theorem f61_oF57p_wbiiiiiiiiiir_j2_ok (k:Nat) (x7 x8:Int) (x9:Bool) (e0:List T39) (e1 e1_1 e1_2 e1_3 e1_4 e1_5 e1_6 e1_7 e1_8 e1_9:Int) (e1_10:List Int) (r:R61_oF57p_wbiiiiiiiiiir) (hF:f61_oF57p_wbiiiiiiiiiir_j2 k x7 x8 x9 e0 e1 e1_1 e1_2 e1_3 e1_4 e1_5 e1_6 e1_7 e1_8 e1_9 e1_10 = some r) : finK Try.prog Try.f61 2 (EX 61 k (nav B61 [2,2]) (⟨19,[(0,.own 1000000),(1,V.fn 57 [.ptr 1000001 0]),(7,.p (.int .i64 x7)),(8,.p (.int .i64 x8)),(9,.p (.bool x9))],[(1000000,.row true 11 39 (rowsOf encT39 e0)),(1000001,.box 39 [.p (.int .i64 e1),.p (.int .i64 e1_1),.p (.int .u32 e1_2),.p (.int .i64 e1_3),.p (.int .i64 e1_4),.p (.int .i64 e1_5),.p (.int .i64 e1_6),.p (.int .i64 e1_7),.p (.int .i64 e1_8),.p (.int .i64 e1_9),.sl 1 (rowsOf (encI .u8) e1_10)])]⟩ : St)) = some r.st := by
 unfold f61_oF57p_wbiiiiiiiiiir_j2 at hF
 cases hF
 simp (maxSteps:=999999) (disch:=first|exact D (by decide)|exact K (by kernel_rfl)) only [E,EE,↓reduceIte,simprocAttr,xk B61 [2,2] .sq rfl,rg B61 [1,2,2] 7 false rfl,hr_61_7,xk B61 [2,2,2] .rt rfl,finK_norm,finK_ret,fin61,R61_oF57p_wbiiiiiiiiiir.st]
noncomputable def f61_oF57p_wbiiiiiiiiiir_e (k:Nat) (e0:List T39) (e1 e1_1 e1_2 e1_3 e1_4 e1_5 e1_6 e1_7 e1_8 e1_9:Int) (e1_10:List Int) : Option R61_oF57p_wbiiiiiiiiiir :=
 Option.bind (f61_oF57p_wbiiiiiiiiiir_l1 k k ((List.length e0) : Int) 0 e0 e1 e1_1 e1_2 e1_3 e1_4 e1_5 e1_6 e1_7 e1_8 e1_9 e1_10) fun o1 =>
  match o1 with
  | .o0 v4 v5 v6 v7 v8 v9 v10 v11 v12 v13 v14 v15 v16 =>
   some (R61_oF57p_wbiiiiiiiiiir.o0 v4 v5 v6 v7 v8 v9 v10 v11 v12 v13 v14 v15 v16)
  | .o1 _ _ _ _ _ _ _ _ _ _ _ _ _ _ =>
   none
  | .o2 v17 v18 v19 v20 v21 v22 v23 v24 v25 v26 v27 v28 v29 v30 v31 =>
   f61_oF57p_wbiiiiiiiiiir_j2 k v17 v18 v19 v20 v21 v22 v23 v24 v25 v26 v27 v28 v29 v30 v31
theorem f61_oF57p_wbiiiiiiiiiir_e_ok (k:Nat) (e0:List T39) (e1 e1_1 e1_2 e1_3 e1_4 e1_5 e1_6 e1_7 e1_8 e1_9:Int) (e1_10:List Int) (r:R61_oF57p_wbiiiiiiiiiir) (hF:f61_oF57p_wbiiiiiiiiiir_e k e0 e1 e1_1 e1_2 e1_3 e1_4 e1_5 e1_6 e1_7 e1_8 e1_9 e1_10 = some r) : finK Try.prog Try.f61 2 (EX 61 k (nav B61 []) (⟨19,[(0,.own 1000000),(1,V.fn 57 [.ptr 1000001 0])],[(1000000,.row true 11 39 (rowsOf encT39 e0)),(1000001,.box 39 [.p (.int .i64 e1),.p (.int .i64 e1_1),.p (.int .u32 e1_2),.p (.int .i64 e1_3),.p (.int .i64 e1_4),.p (.int .i64 e1_5),.p (.int .i64 e1_6),.p (.int .i64 e1_7),.p (.int .i64 e1_8),.p (.int .i64 e1_9),.sl 1 (rowsOf (encI .u8) e1_10)])]⟩ : St)) = some r.st := by
 unfold f61_oF57p_wbiiiiiiiiiir_e at hF
 obtain ⟨o1,h2,hF⟩ := bs hF
 have hc3 := f61_oF57p_wbiiiiiiiiiir_l1_ok k k ((List.length e0) : Int) 0 e0 e1 e1_1 e1_2 e1_3 e1_4 e1_5 e1_6 e1_7 e1_8 e1_9 e1_10 _ h2
 simp (maxSteps:=999999) (disch:=first|exact D (by decide)|exact K (by kernel_rfl)) only [E,EE,↓reduceIte,simprocAttr,xk B61 [] .sq rfl,rg B61 [1] 0 false rfl,hr_61_0,xk B61 [2] .sq rfl,xk B61 [1,2] .sq rfl,rg B61 [1,1,2] 1 false rfl,hr_61_1,t_24,xk B61 [2,1,2] (.bk 0) rfl,xk B61 [2,2,1,2] .lp rfl,hh_61_2,hc_61_2]
 (try simp only [NM,EE] at hc3)
 rw [hc3 _ (by simp (maxSteps:=999999) (disch:=first|exact D (by decide)|exact K (by kernel_rfl)) only [E,EE,↓reduceIte,simprocAttr,hh_61_2,hc_61_2])]
 clear hc3
 cases o1 with
 | o0 v4 v5 v6 v7 v8 v9 v10 v11 v12 v13 v14 v15 v16 =>
  (try dsimp only at hF)
  cases hF
  simp (maxSteps:=999999) (disch:=first|exact D (by decide)|exact K (by kernel_rfl)) only [E,EE,↓reduceIte,simprocAttr,R61_oF57p_wbiiiiiiiiiir_l1.st,finK_norm,finK_ret,fin61,R61_oF57p_wbiiiiiiiiiir.st]
 | o1 _ _ _ _ _ _ _ _ _ _ _ _ _ _ =>
  (try dsimp only at hF)
  cases hF
 | o2 v17 v18 v19 v20 v21 v22 v23 v24 v25 v26 v27 v28 v29 v30 v31 =>
  (try dsimp only at hF)
  have hJ := f61_oF57p_wbiiiiiiiiiir_j2_ok k v17 v18 v19 v20 v21 v22 v23 v24 v25 v26 v27 v28 v29 v30 v31 _ hF
  simp (maxSteps:=999999) (disch:=first|exact D (by decide)|exact K (by kernel_rfl)) only [E,EE,↓reduceIte,simprocAttr,R61_oF57p_wbiiiiiiiiiir_l1.st]
  try simp only [NM,EE] at hJ
  exact hJ
noncomputable def f61_oF57p_wbiiiiiiiiiir (k:Nat) (e0:List T39) (e1 e1_1 e1_2 e1_3 e1_4 e1_5 e1_6 e1_7 e1_8 e1_9:Int) (e1_10:List Int) : Option R61_oF57p_wbiiiiiiiiiir := match k with | 0 => none | k + 1 => f61_oF57p_wbiiiiiiiiiir_e k e0 e1 e1_1 e1_2 e1_3 e1_4 e1_5 e1_6 e1_7 e1_8 e1_9 e1_10
theorem f61_oF57p_wbiiiiiiiiiir_ok (k:Nat) (e0:List T39) (e1 e1_1 e1_2 e1_3 e1_4 e1_5 e1_6 e1_7 e1_8 e1_9:Int) (e1_10:List Int) (r:R61_oF57p_wbiiiiiiiiiir) (hF:f61_oF57p_wbiiiiiiiiiir k e0 e1 e1_1 e1_2 e1_3 e1_4 e1_5 e1_6 e1_7 e1_8 e1_9 e1_10 = some r) : CV k 61 [.own 1000000,V.fn 57 [.ptr 1000001 0]] [.row true 11 39 (rowsOf encT39 e0),.box 39 [.p (.int .i64 e1),.p (.int .i64 e1_1),.p (.int .u32 e1_2),.p (.int .i64 e1_3),.p (.int .i64 e1_4),.p (.int .i64 e1_5),.p (.int .i64 e1_6),.p (.int .i64 e1_7),.p (.int .i64 e1_8),.p (.int .i64 e1_9),.sl 1 (rowsOf (encI .u8) e1_10)]] = some r.st := by
 cases k with
 | zero => cases hF
 | succ k =>
  unfold CV
  rw [ev_call (F := Try.f61) (c := (nav B61 [])) rfl Try.func61 rfl rfl rfl rfl]
  exact f61_oF57p_wbiiiiiiiiiir_e_ok k e0 e1 e1_1 e1_2 e1_3 e1_4 e1_5 e1_6 e1_7 e1_8 e1_9 e1_10 r hF
-- f42_oF57p_wbiiiiiiiiiir: f42 slices.DeleteFunc[[]heliograph/api.Bundle,heliograph/api.Bundle]
inductive R42_oF57p_wbiiiiiiiiiir where
 | o0 (y:List T39) (y_1 y_2 y_3 y_4 y_5 y_6 y_7 y_8 y_9 y_10:Int) (y_11:List Int)
 | o1 (y y_1:Nat) (y_2:List T39) (y_3 y_4 y_5 y_6 y_7 y_8 y_9 y_10 y_11 y_12:Int) (y_13:List Int)
noncomputable def R42_oF57p_wbiiiiiiiiiir.st : R42_oF57p_wbiiiiiiiiiir → V × List O × List O
 | .o0 y y_1 y_2 y_3 y_4 y_5 y_6 y_7 y_8 y_9 y_10 y_11 => (.own 1000000,[.row true 11 39 (rowsOf encT39 y),.box 39 [.p (.int .i64 y_1),.p (.int .i64 y_2),.p (.int .u32 y_3),.p (.int .i64 y_4),.p (.int .i64 y_5),.p (.int .i64 y_6),.p (.int .i64 y_7),.p (.int .i64 y_8),.p (.int .i64 y_9),.p (.int .i64 y_10),.sl 1 (rowsOf (encI .u8) y_11)]],[])
 | .o1 y y_1 y_2 y_3 y_4 y_5 y_6 y_7 y_8 y_9 y_10 y_11 y_12 y_13 => (V.cut 1000000 11 y y_1,[.row true 11 39 (rowsOf encT39 y_2),.box 39 [.p (.int .i64 y_3),.p (.int .i64 y_4),.p (.int .u32 y_5),.p (.int .i64 y_6),.p (.int .i64 y_7),.p (.int .i64 y_8),.p (.int .i64 y_9),.p (.int .i64 y_10),.p (.int .i64 y_11),.p (.int .i64 y_12),.sl 1 (rowsOf (encI .u8) y_13)]],[])
inductive R42_oF57p_wbiiiiiiiiiir_l2 where
 | o0 (y y_1:Int) (y_2:List T39) (y_3 y_4 y_5 y_6 y_7 y_8 y_9 y_10 y_11 y_12:Int) (y_13:List Int)
 | o1 (y y_1:Int) (y_2:Bool) (y_3:List T39) (y_4 y_5 y_6 y_7 y_8 y_9 y_10 y_11 y_12 y_13:Int) (y_14:List Int)
noncomputable def R42_oF57p_wbiiiiiiiiiir_l2.st : R42_oF57p_wbiiiiiiiiiir_l2 → Out × St
 | .o0 y y_1 y_2 y_3 y_4 y_5 y_6 y_7 y_8 y_9 y_10 y_11 y_12 y_13 => (.norm,(⟨42,[(0,.own 1000000),(1,V.fn 57 [.ptr 1000001 0]),(5,.p (.int .i64 y)),(6,.p (.int .i64 y_1))],[(1000000,.row true 11 39 (rowsOf encT39 y_2)),(1000001,.box 39 [.p (.int .i64 y_3),.p (.int .i64 y_4),.p (.int .u32 y_5),.p (.int .i64 y_6),.p (.int .i64 y_7),.p (.int .i64 y_8),.p (.int .i64 y_9),.p (.int .i64 y_10),.p (.int .i64 y_11),.p (.int .i64 y_12),.sl 1 (rowsOf (encI .u8) y_13)])]⟩ : St))
 | .o1 y y_1 y_2 y_3 y_4 y_5 y_6 y_7 y_8 y_9 y_10 y_11 y_12 y_13 y_14 => (.exit 0,(⟨42,[(0,.own 1000000),(1,V.fn 57 [.ptr 1000001 0]),(5,.p (.int .i64 y)),(6,.p (.int .i64 y_1)),(19,.p (.bool y_2))],[(1000000,.row true 11 39 (rowsOf encT39 y_3)),(1000001,.box 39 [.p (.int .i64 y_4),.p (.int .i64 y_5),.p (.int .u32 y_6),.p (.int .i64 y_7),.p (.int .i64 y_8),.p (.int .i64 y_9),.p (.int .i64 y_10),.p (.int .i64 y_11),.p (.int .i64 y_12),.p (.int .i64 y_13),.sl 1 (rowsOf (encI .u8) y_14)])]⟩ : St))
noncomputable def f42_oF57p_wbiiiiiiiiiir_l2_j2 (k:Nat) (x5 x6:Int) (e0:List T39) (e1 e1_1 e1_2 e1_3 e1_4 e1_5 e1_6 e1_7 e1_8 e1_9:Int) (e1_10:List Int) : Option R42_oF57p_wbiiiiiiiiiir_l2 :=
 some (R42_oF57p_wbiiiiiiiiiir_l2.o0 x5 (IntKind.i64.wrap (x6 + (1:Int))) e0 e1 e1_1 e1_2 e1_3 e1_4 e1_5 e1_6 e1_7 e1_8 e1_9 e1_10)
theorem f42_oF57p_wbiiiiiiiiiir_l2_j2_ok (k:Nat) (x5 x6:Int) (e0:List T39) (e1 e1_1 e1_2 e1_3 e1_4 e1_5 e1_6 e1_7 e1_8 e1_9:Int) (e1_10:List Int) (r:R42_oF57p_wbiiiiiiiiiir_l2) (hF:f42_oF57p_wbiiiiiiiiiir_l2_j2 k x5 x6 e0 e1 e1_1 e1_2 e1_3 e1_4 e1_5 e1_6 e1_7 e1_8 e1_9 e1_10 = some r) : EX 42 k (nav B42 [2,2,1,2,2,1,2,2,2]) (⟨42,[(0,.own 1000000),(1,V.fn 57 [.ptr 1000001 0]),(5,.p (.int .i64 x5)),(6,.p (.int .i64 x6))],[(1000000,.row true 11 39 (rowsOf encT39 e0)),(1000001,.box 39 [.p (.int .i64 e1),.p (.int .i64 e1_1),.p (.int .u32 e1_2),.p (.int .i64 e1_3),.p (.int .i64 e1_4),.p (.int .i64 e1_5),.p (.int .i64 e1_6),.p (.int .i64 e1_7),.p (.int .i64 e1_8),.p (.int .i64 e1_9),.sl 1 (rowsOf (encI .u8) e1_10)])]⟩ : St) = some r.st := by
 unfold f42_oF57p_wbiiiiiiiiiir_l2_j2 at hF
 cases hF
 simp (maxSteps:=999999) (disch:=first|exact D (by decide)|exact K (by kernel_rfl)) only [E,EE,↓reduceIte,simprocAttr,rg B42 [2,2,1,2,2,1,2,2,2] 6 false rfl,hr_42_6,R42_oF57p_wbiiiiiiiiiir_l2.st]
noncomputable def f42_oF57p_wbiiiiiiiiiir_l2_j3 (k:Nat) (x5 x6:Int) (x29:Bool) (e0:List T39) (e1 e1_1 e1_2 e1_3 e1_4 e1_5 e1_6 e1_7 e1_8 e1_9:Int) (e1_10:List Int) (m7 m7_1 m7_2 m7_3 m7_4 m7_5 m7_6 m7_7 m7_8 m7_9:Int) (m7_10:List Int) : Option R42_oF57p_wbiiiiiiiiiir_l2 :=
 some (R42_oF57p_wbiiiiiiiiiir_l2.o0 x5 (IntKind.i64.wrap (x6 + (1:Int))) e0 e1 e1_1 e1_2 e1_3 e1_4 e1_5 e1_6 e1_7 e1_8 e1_9 e1_10)
theorem f42_oF57p_wbiiiiiiiiiir_l2_j3_ok (k:Nat) (x5 x6:Int) (x29:Bool) (e0:List T39) (e1 e1_1 e1_2 e1_3 e1_4 e1_5 e1_6 e1_7 e1_8 e1_9:Int) (e1_10:List Int) (m7 m7_1 m7_2 m7_3 m7_4 m7_5 m7_6 m7_7 m7_8 m7_9:Int) (m7_10:List Int) (r:R42_oF57p_wbiiiiiiiiiir_l2) (hF:f42_oF57p_wbiiiiiiiiiir_l2_j3 k x5 x6 x29 e0 e1 e1_1 e1_2 e1_3 e1_4 e1_5 e1_6 e1_7 e1_8 e1_9 e1_10 m7 m7_1 m7_2 m7_3 m7_4 m7_5 m7_6 m7_7 m7_8 m7_9 m7_10 = some r) : EX 42 k (nav B42 [2,2,1,2,2,1,2,2,2]) (⟨42,[(0,.own 1000000),(1,V.fn 57 [.ptr 1000001 0]),(5,.p (.int .i64 x5)),(6,.p (.int .i64 x6)),(7,.ptr 7 0),(29,.p (.bool x29))],[(1000000,.row true 11 39 (rowsOf encT39 e0)),(1000001,.box 39 [.p (.int .i64 e1),.p (.int .i64 e1_1),.p (.int .u32 e1_2),.p (.int .i64 e1_3),.p (.int .i64 e1_4),.p (.int .i64 e1_5),.p (.int .i64 e1_6),.p (.int .i64 e1_7),.p (.int .i64 e1_8),.p (.int .i64 e1_9),.sl 1 (rowsOf (encI .u8) e1_10)]),(7,.box 39 [.p (.int .i64 m7),.p (.int .i64 m7_1),.p (.int .u32 m7_2),.p (.int .i64 m7_3),.p (.int .i64 m7_4),.p (.int .i64 m7_5),.p (.int .i64 m7_6),.p (.int .i64 m7_7),.p (.int .i64 m7_8),.p (.int .i64 m7_9),.sl 1 (rowsOf (encI .u8) m7_10)])]⟩ : St) = some r.st := by
 unfold f42_oF57p_wbiiiiiiiiiir_l2_j3 at hF
 cases hF
 simp (maxSteps:=999999) (disch:=first|exact D (by decide)|exact K (by kernel_rfl)) only [E,EE,↓reduceIte,simprocAttr,rg B42 [2,2,1,2,2,1,2,2,2] 6 false rfl,hr_42_6,R42_oF57p_wbiiiiiiiiiir_l2.st]
noncomputable def f42_oF57p_wbiiiiiiiiiir_l2_j1 (k:Nat) (x5 x6:Int) (x19:Bool) (e0:List T39) (e1 e1_1 e1_2 e1_3 e1_4 e1_5 e1_6 e1_7 e1_8 e1_9:Int) (e1_10:List Int) : Option R42_oF57p_wbiiiiiiiiiir_l2 :=
 ifE ((0:Int) ≤ x6) (
  ifE (x6 < ((List.length e0) : Int)) (
   Option.bind (e0[(Int.toNat x6)]?) fun v3 =>
    Option.bind (f57_ai10rzp_biiiiiiiiiir k v3.Source v3.Dest v3.Seq v3.Created v3.Lifetime v3.HopLimit v3.Hops v3.Priority v3.Offset v3.Total v3.Payload e1 e1_1 e1_2 e1_3 e1_4 e1_5 e1_6 e1_7 e1_8 e1_9 e1_10) fun o5 =>
     match o5 with
     | .o0 v8 v9 v10 v11 v12 v13 v14 v15 v16 v17 v18 v19 =>
      cond ((!v8))
       (
        ifE ((0:Int) ≤ x5) (
         ifE (x5 < ((List.length e0) : Int)) (
          Option.bind (e0[(Int.toNat x5)]?) fun v23 =>
           f42_oF57p_wbiiiiiiiiiir_l2_j2 k (IntKind.i64.wrap (x5 + (1:Int))) x6 (List.set e0 (Int.toNat x5) v3) v9 v10 v11 v12 v13 v14 v15 v16 v17 v18 v19)))
       (f42_oF57p_wbiiiiiiiiiir_l2_j3 k x5 x6 false e0 v9 v10 v11 v12 v13 v14 v15 v16 v17 v18 v19 v3.Source v3.Dest v3.Seq v3.Created v3.Lifetime v3.HopLimit v3.Hops v3.Priority v3.Offset v3.Total v3.Payload)))
theorem f42_oF57p_wbiiiiiiiiiir_l2_j1_ok (k:Nat) (x5 x6:Int) (x19:Bool) (e0:List T39) (e1 e1_1 e1_2 e1_3 e1_4 e1_5 e1_6 e1_7 e1_8 e1_9:Int) (e1_10:List Int) (r:R42_oF57p_wbiiiiiiiiiir_l2) (hF:f42_oF57p_wbiiiiiiiiiir_l2_j1 k x5 x6 x19 e0 e1 e1_1 e1_2 e1_3 e1_4 e1_5 e1_6 e1_7 e1_8 e1_9 e1_10 = some r) : EX 42 k (nav B42 [2,1,2,2,1,2,2,2]) (⟨42,[(0,.own 1000000),(1,V.fn 57 [.ptr 1000001 0]),(5,.p (.int .i64 x5)),(6,.p (.int .i64 x6)),(19,.p (.bool x19))],[(1000000,.row true 11 39 (rowsOf encT39 e0)),(1000001,.box 39 [.p (.int .i64 e1),.p (.int .i64 e1_1),.p (.int .u32 e1_2),.p (.int .i64 e1_3),.p (.int .i64 e1_4),.p (.int .i64 e1_5),.p (.int .i64 e1_6),.p (.int .i64 e1_7),.p (.int .i64 e1_8),.p (.int .i64 e1_9),.sl 1 (rowsOf (encI .u8) e1_10)])]⟩ : St) = some r.st := by
 unfold f42_oF57p_wbiiiiiiiiiir_l2_j1 at hF
 obtain ⟨h1,hF⟩ := ifE_some.1 hF
 obtain ⟨h2,hF⟩ := ifE_some.1 hF
 obtain ⟨v3,h4,hF⟩ := bs hF
 obtain ⟨o5,h6,hF⟩ := bs hF
 have hc7 := f57_ai10rzp_biiiiiiiiiir_ok k v3.Source v3.Dest v3.Seq v3.Created v3.Lifetime v3.HopLimit v3.Hops v3.Priority v3.Offset v3.Total v3.Payload e1 e1_1 e1_2 e1_3 e1_4 e1_5 e1_6 e1_7 e1_8 e1_9 e1_10 _ h6
 cases o5 with
 | o0 v8 v9 v10 v11 v12 v13 v14 v15 v16 v17 v18 v19 =>
  (try dsimp only at hF)
  (try simp only [NM,EE,R57_ai10rzp_biiiiiiiiiir.st] at hc7)
  simp (maxSteps:=999999) (disch:=first|exact D (by decide)|exact K (by kernel_rfl)) only [E,EE,↓reduceIte,simprocAttr,xk B42 [2,1,2,2,1,2,2,2] .sq rfl,xk B42 [1,2,1,2,2,1,2,2,2] (.bk 1) rfl,xk B42 [2,1,2,1,2,2,1,2,2,2] .sq rfl,rg B42 [1,2,1,2,1,2,2,1,2,2,2] 7 false rfl,hr_42_7,indexAddrV,t_24,t_39,encT39_eq,xk B42 [2,2,1,2,1,2,2,1,2,2,2] .sq rfl,rg B42 [1,2,2,1,2,1,2,2,1,2,2,2] 8 false rfl,hr_42_8,callStep,CL,gv,List.contains,xk B42 [2,2,2,1,2,1,2,2,1,2,2,2] (.cd 29) rfl,h1,h2,h4,hc7]
  rcases cond_some hF with ⟨h20,hF⟩ | ⟨h20,hF⟩
  ·obtain ⟨h21,hF⟩ := ifE_some.1 hF
   obtain ⟨h22,hF⟩ := ifE_some.1 hF
   obtain ⟨v23,h24,hF⟩ := bs hF
   have q25 : List.set (rowsOf encT39 e0) (Int.toNat x5) [.p (.int .i64 v3.Source),.p (.int .i64 v3.Dest),.p (.int .u32 v3.Seq),.p (.int .i64 v3.Created),.p (.int .i64 v3.Lifetime),.p (.int .i64 v3.HopLimit),.p (.int .i64 v3.Hops),.p (.int .i64 v3.Priority),.p (.int .i64 v3.Offset),.p (.int .i64 v3.Total),.sl 1 (rowsOf (encI .u8) v3.Payload)] = rowsOf encT39 (List.set e0 (Int.toNat x5) v3) := (rowsOf_set (enc := encT39) (l := e0) (i := (Int.toNat x5)) (x := v3)).symm
   have hJ := f42_oF57p_wbiiiiiiiiiir_l2_j2_ok k (IntKind.i64.wrap (x5 + (1:Int))) x6 (List.set e0 (Int.toNat x5) v3) v9 v10 v11 v12 v13 v14 v15 v16 v17 v18 v19 _ hF
   simp (maxSteps:=999999) (disch:=first|exact D (by decide)|exact K (by kernel_rfl)) only [E,EE,↓reduceIte,simprocAttr,xk B42 [2,2,2,2,1,2,1,2,2,1,2,2,2] .sq rfl,rg B42 [1,2,2,2,2,1,2,1,2,2,1,2,2,2] 9 false rfl,hr_42_9,t_39,indexAddrV,t_24,sm_39,encT39_eq,rg B42 [2,2,2,2,2,1,2,1,2,2,1,2,2,2] 10 false rfl,hr_42_10,h1,h2,h4,hc7,h20,h21,h22,h24,q25]
   try simp only [NM,EE] at hJ
   exact hJ
  ·have hJ := f42_oF57p_wbiiiiiiiiiir_l2_j3_ok k x5 x6 false e0 v9 v10 v11 v12 v13 v14 v15 v16 v17 v18 v19 v3.Source v3.Dest v3.Seq v3.Created v3.Lifetime v3.HopLimit v3.Hops v3.Priority v3.Offset v3.Total v3.Payload _ hF
   simp (maxSteps:=999999) (disch:=first|exact D (by decide)|exact K (by kernel_rfl)) only [E,EE,↓reduceIte,simprocAttr,xk B42 [3,2,2,2,1,2,1,2,2,1,2,2,2] .sk rfl,h1,h2,h4,hc7,h20]
   try simp only [NM,EE] at hJ
   exact hJ
noncomputable def f42_oF57p_wbiiiiiiiiiir_l2_b (k:Nat) (x5 x6:Int) (e0:List T39) (e1 e1_1 e1_2 e1_3 e1_4 e1_5 e1_6 e1_7 e1_8 e1_9:Int) (e1_10:List Int) : Option R42_oF57p_wbiiiiiiiiiir_l2 :=
 cond ((decide (x6 < ((List.length e0) : Int))))
  (f42_oF57p_wbiiiiiiiiiir_l2_j1 k x5 x6 true e0 e1 e1_1 e1_2 e1_3 e1_4 e1_5 e1_6 e1_7 e1_8 e1_9 e1_10)
  (some (R42_oF57p_wbiiiiiiiiiir_l2.o1 x5 x6 false e0 e1 e1_1 e1_2 e1_3 e1_4 e1_5 e1_6 e1_7 e1_8 e1_9 e1_10))
theorem f42_oF57p_wbiiiiiiiiiir_l2_b_ok (k:Nat) (x5 x6:Int) (e0:List T39) (e1 e1_1 e1_2 e1_3 e1_4 e1_5 e1_6 e1_7 e1_8 e1_9:Int) (e1_10:List Int) (r:R42_oF57p_wbiiiiiiiiiir_l2) (hF:f42_oF57p_wbiiiiiiiiiir_l2_b k x5 x6 e0 e1 e1_1 e1_2 e1_3 e1_4 e1_5 e1_6 e1_7 e1_8 e1_9 e1_10 = some r) : EX 42 k (nav B42 [1,2,2,1,2,2,2]) (⟨42,[(0,.own 1000000),(1,V.fn 57 [.ptr 1000001 0]),(5,.p (.int .i64 x5)),(6,.p (.int .i64 x6))],[(1000000,.row true 11 39 (rowsOf encT39 e0)),(1000001,.box 39 [.p (.int .i64 e1),.p (.int .i64 e1_1),.p (.int .u32 e1_2),.p (.int .i64 e1_3),.p (.int .i64 e1_4),.p (.int .i64 e1_5),.p (.int .i64 e1_6),.p (.int .i64 e1_7),.p (.int .i64 e1_8),.p (.int .i64 e1_9),.sl 1 (rowsOf (encI .u8) e1_10)])]⟩ : St) = some r.st := by
 unfold f42_oF57p_wbiiiiiiiiiir_l2_b at hF
 simp (maxSteps:=999999) (disch:=first|exact D (by decide)|exact K (by kernel_rfl)) only [E,EE,↓reduceIte,simprocAttr,xk B42 [1,2,2,1,2,2,2] .sq rfl,xk B42 [1,1,2,2,1,2,2,2] .sq rfl,rg B42 [1,1,1,2,2,1,2,2,2] 5 false rfl,hr_42_5,t_24,xk B42 [2,1,1,2,2,1,2,2,2] (.cd 19) rfl]
 rcases cond_some hF with ⟨h1,hF⟩ | ⟨h1,hF⟩
 ·have hJ := f42_oF57p_wbiiiiiiiiiir_l2_j1_ok k x5 x6 true e0 e1 e1_1 e1_2 e1_3 e1_4 e1_5 e1_6 e1_7 e1_8 e1_9 e1_10 _ hF
  simp (maxSteps:=999999) (disch:=first|exact D (by decide)|exact K (by kernel_rfl)) only [E,EE,↓reduceIte,simprocAttr,xk B42 [2,2,1,1,2,2,1,2,2,2] .sk rfl,h1]
  try simp only [NM,EE] at hJ
  exact hJ
 ·cases hF
  simp (maxSteps:=999999) (disch:=first|exact D (by decide)|exact K (by kernel_rfl)) only [E,EE,↓reduceIte,simprocAttr,xk B42 [3,2,1,1,2,2,1,2,2,2] (.ex 0) rfl,R42_oF57p_wbiiiiiiiiiir_l2.st,h1]
noncomputable def f42_oF57p_wbiiiiiiiiiir_l2 (k:Nat) : Nat → Int → Int → (List T39) → Int → Int → Int → Int → Int → Int → Int → Int → Int → Int → (List Int) → Option R42_oF57p_wbiiiiiiiiiir_l2
 | 0,_,_,_,_,_,_,_,_,_,_,_,_,_,_ => none
 | n + 1,x5,x6,e0,e1,e1_1,e1_2,e1_3,e1_4,e1_5,e1_6,e1_7,e1_8,e1_9,e1_10 => Option.bind (f42_oF57p_wbiiiiiiiiiir_l2_b k x5 x6 e0 e1 e1_1 e1_2 e1_3 e1_4 e1_5 e1_6 e1_7 e1_8 e1_9 e1_10) fun o =>
  match o with
  | .o0 y y_1 y_2 y_3 y_4 y_5 y_6 y_7 y_8 y_9 y_10 y_11 y_12 y_13 => f42_oF57p_wbiiiiiiiiiir_l2 k n y y_1 y_2 y_3 y_4 y_5 y_6 y_7 y_8 y_9 y_10 y_11 y_12 y_13
  | .o1 y y_1 y_2 y_3 y_4 y_5 y_6 y_7 y_8 y_9 y_10 y_11 y_12 y_13 y_14 => some (.o1 y y_1 y_2 y_3 y_4 y_5 y_6 y_7 y_8 y_9 y_10 y_11 y_12 y_13 y_14)
theorem f42_oF57p_wbiiiiiiiiiir_l2_ok (k n:Nat) : ∀ (x5 x6:Int) (e0:List T39) (e1 e1_1 e1_2 e1_3 e1_4 e1_5 e1_6 e1_7 e1_8 e1_9:Int) (e1_10:List Int) (r:R42_oF57p_wbiiiiiiiiiir_l2) (hF:f42_oF57p_wbiiiiiiiiiir_l2 k n x5 x6 e0 e1 e1_1 e1_2 e1_3 e1_4 e1_5 e1_6 e1_7 e1_8 e1_9 e1_10 = some r) (σ:St) (hσ:headR (hints.head 42 5) (hints.canon 42 5) σ = some (⟨42,[(0,.own 1000000),(1,V.fn 57 [.ptr 1000001 0]),(5,.p (.int .i64 x5)),(6,.p (.int .i64 x6))],[(1000000,.row true 11 39 (rowsOf encT39 e0)),(1000001,.box 39 [.p (.int .i64 e1),.p (.int .i64 e1_1),.p (.int .u32 e1_2),.p (.int .i64 e1_3),.p (.int .i64 e1_4),.p (.int .i64 e1_5),.p (.int .i64 e1_6),.p (.int .i64 e1_7),.p (.int .i64 e1_8),.p (.int .i64 e1_9),.sl 1 (rowsOf (encI .u8) e1_10)])]⟩ : St)),LP 42 k (nav B42 [1,2,2,1,2,2,2]) n σ = some r.st := by
 induction n with
 | zero => intro x5 x6 e0 e1 e1_1 e1_2 e1_3 e1_4 e1_5 e1_6 e1_7 e1_8 e1_9 e1_10 r hF; cases hF
 | succ n ih =>
  intro x5 x6 e0 e1 e1_1 e1_2 e1_3 e1_4 e1_5 e1_6 e1_7 e1_8 e1_9 e1_10 r hF σ hσ
  rw [f42_oF57p_wbiiiiiiiiiir_l2] at hF
  obtain ⟨o,h,hF⟩ := Option.bind_eq_some_iff.1 hF
  have hB := f42_oF57p_wbiiiiiiiiiir_l2_b_ok k x5 x6 e0 e1 e1_1 e1_2 e1_3 e1_4 e1_5 e1_6 e1_7 e1_8 e1_9 e1_10 o h
  unfold LP at ih ⊢
  unfold EX at hB
  rw [loopK_succ,show firstReg (nav B42 [1,2,2,1,2,2,2]) = 5 from rfl,hσ,headK_some,hB]
  cases o with
  | o0 y y_1 y_2 y_3 y_4 y_5 y_6 y_7 y_8 y_9 y_10 y_11 y_12 y_13 =>
   refine ih y y_1 y_2 y_3 y_4 y_5 y_6 y_7 y_8 y_9 y_10 y_11 y_12 y_13 r hF _ ?_
   simp (maxSteps:=999999) (disch:=first|exact D (by decide)|exact K (by kernel_rfl)) only [E,EE,↓reduceIte,simprocAttr,hh_42_5,hc_42_5]
  | o1 y y_1 y_2 y_3 y_4 y_5 y_6 y_7 y_8 y_9 y_10 y_11 y_12 y_13 y_14 => cases hF; rfl
noncomputable def f42_oF57p_wbiiiiiiiiiir_j3 (k:Nat) (x5 x6:Int) (x19:Bool) (e0:List T39) (e1 e1_1 e1_2 e1_3 e1_4 e1_5 e1_6 e1_7 e1_8 e1_9:Int) (e1_10:List Int) : Option R42_oF57p_wbiiiiiiiiiir :=
 ifE ((0:Int) ≤ x5) (
  ifE ((Int.toNat x5) ≤ (List.length e0)) (
   ifE (((Int.toNat x5) + ((List.length e0) - (Int.toNat x5))) ≤ (List.length e0)) (
    ifE ((Int.toNat x5) ≤ (List.length (((List.take (Int.toNat x5) e0) ++ (List.replicate (((List.length e0) - (Int.toNat x5))) ((T39.mk 0 0 0 0 0 0 0 0 0 0 []) : T39) ++ (List.drop (((Int.toNat x5) + ((List.length e0) - (Int.toNat x5)))) e0)))))) (
     some (R42_oF57p_wbiiiiiiiiiir.o1 0 (Int.toNat x5) (((List.take (Int.toNat x5) e0) ++ (List.replicate (((List.length e0) - (Int.toNat x5))) ((T39.mk 0 0 0 0 0 0 0 0 0 0 []) : T39) ++ (List.drop (((Int.toNat x5) + ((List.length e0) - (Int.toNat x5)))) e0)))) e1 e1_1 e1_2 e1_3 e1_4 e1_5 e1_6 e1_7 e1_8 e1_9 e1_10)))))
theorem f42_oF57p_wbiiiiiiiiiir_j3_ok (k:Nat) (x5 x6:Int) (x19:Bool) (e0:List T39) (e1 e1_1 e1_2 e1_3 e1_4 e1_5 e1_6 e1_7 e1_8 e1_9:Int) (e1_10:List Int) (r:R42_oF57p_wbiiiiiiiiiir) (hF:f42_oF57p_wbiiiiiiiiiir_j3 k x5 x6 x19 e0 e1 e1_1 e1_2 e1_3 e1_4 e1_5 e1_6 e1_7 e1_8 e1_9 e1_10 = some r) : finK Try.prog Try.f42 2 (EX 42 k (nav B42 [2,2,2,2]) (⟨42,[(0,.own 1000000),(1,V.fn 57 [.ptr 1000001 0]),(5,.p (.int .i64 x5)),(6,.p (.int .i64 x6)),(19,.p (.bool x19))],[(1000000,.row true 11 39 (rowsOf encT39 e0)),(1000001,.box 39 [.p (.int .i64 e1),.p (.int .i64 e1_1),.p (.int .u32 e1_2),.p (.int .i64 e1_3),.p (.int .i64 e1_4),.p (.int .i64 e1_5),.p (.int .i64 e1_6),.p (.int .i64 e1_7),.p (.int .i64 e1_8),.p (.int .i64 e1_9),.sl 1 (rowsOf (encI .u8) e1_10)])]⟩ : St)) = some r.st := by
 unfold f42_oF57p_wbiiiiiiiiiir_j3 at hF
 obtain ⟨h1,hF⟩ := ifE_some.1 hF
 obtain ⟨h2,hF⟩ := ifE_some.1 hF
 obtain ⟨h3,hF⟩ := ifE_some.1 hF
 have q4 : List.replicate (((List.length e0) - (Int.toNat x5))) [.p (.int .i64 0),.p (.int .i64 0),.p (.int .u32 0),.p (.int .i64 0),.p (.int .i64 0),.p (.int .i64 0),.p (.int .i64 0),.p (.int .i64 0),.p (.int .i64 0),.p (.int .i64 0),.sl 1 []] = rowsOf encT39 (List.replicate (((List.length e0) - (Int.toNat x5))) ((T39.mk 0 0 0 0 0 0 0 0 0 0 []) : T39)) := (rowsOf_replicate (enc := encT39) (n := (((List.length e0) - (Int.toNat x5)))) (x := ((T39.mk 0 0 0 0 0 0 0 0 0 0 []) : T39))).symm
 obtain ⟨h5,hF⟩ := ifE_some.1 hF
 cases hF
 simp (maxSteps:=999999) (disch:=first|exact D (by decide)|exact K (by kernel_rfl)) only [E,EE,↓reduceIte,simprocAttr,xk B42 [2,2,2,2] .sq rfl,rg B42 [1,2,2,2,2] 11 false rfl,hr_42_11,sliceV,bound,t_24,t_39,clearV,sm_39,xk B42 [2,2,2,2,2] .sq rfl,rg B42 [1,2,2,2,2,2] 12 false rfl,hr_42_12,xk B42 [2,2,2,2,2,2] .rt rfl,finK_norm,finK_ret,fin42,R42_oF57p_wbiiiiiiiiiir.st,h1,h2,h3,q4,h5]
noncomputable def f42_oF57p_wbiiiiiiiiiir_j1 (k:Nat) (x5:Int) (x12:Bool) (e0:List T39) (e1 e1_1 e1_2 e1_3 e1_4 e1_5 e1_6 e1_7 e1_8 e1_9:Int) (e1_10:List Int) : Option R42_oF57p_wbiiiiiiiiiir :=
 Option.bind (f42_oF57p_wbiiiiiiiiiir_l2 k k x5 (IntKind.i64.wrap (x5 + (1:Int))) e0 e1 e1_1 e1_2 e1_3 e1_4 e1_5 e1_6 e1_7 e1_8 e1_9 e1_10) fun o1 =>
  match o1 with
  | .o0 _ _ _ _ _ _ _ _ _ _ _ _ _ _ =>
   none
  | .o1 v4 v5 v6 v7 v8 v9 v10 v11 v12 v13 v14 v15 v16 v17 v18 =>
   f42_oF57p_wbiiiiiiiiiir_j3 k v4 v5 v6 v7 v8 v9 v10 v11 v12 v13 v14 v15 v16 v17 v18
theorem f42_oF57p_wbiiiiiiiiiir_j1_ok (k:Nat) (x5:Int) (x12:Bool) (e0:List T39) (e1 e1_1 e1_2 e1_3 e1_4 e1_5 e1_6 e1_7 e1_8 e1_9:Int) (e1_10:List Int) (r:R42_oF57p_wbiiiiiiiiiir) (hF:f42_oF57p_wbiiiiiiiiiir_j1 k x5 x12 e0 e1 e1_1 e1_2 e1_3 e1_4 e1_5 e1_6 e1_7 e1_8 e1_9 e1_10 = some r) : finK Try.prog Try.f42 2 (EX 42 k (nav B42 [2,2,2]) (⟨42,[(0,.own 1000000),(1,V.fn 57 [.ptr 1000001 0]),(5,.p (.int .i64 x5)),(12,.p (.bool x12))],[(1000000,.row true 11 39 (rowsOf encT39 e0)),(1000001,.box 39 [.p (.int .i64 e1),.p (.int .i64 e1_1),.p (.int .u32 e1_2),.p (.int .i64 e1_3),.p (.int .i64 e1_4),.p (.int .i64 e1_5),.p (.int .i64 e1_6),.p (.int .i64 e1_7),.p (.int .i64 e1_8),.p (.int .i64 e1_9),.sl 1 (rowsOf (encI .u8) e1_10)])]⟩ : St)) = some r.st := by
 unfold f42_oF57p_wbiiiiiiiiiir_j1 at hF
 obtain ⟨o1,h2,hF⟩ := bs hF
 have hc3 := f42_oF57p_wbiiiiiiiiiir_l2_ok k k x5 (IntKind.i64.wrap (x5 + (1:Int))) e0 e1 e1_1 e1_2 e1_3 e1_4 e1_5 e1_6 e1_7 e1_8 e1_9 e1_10 _ h2
 simp (maxSteps:=999999) (disch:=first|exact D (by decide)|exact K (by kernel_rfl)) only [E,EE,↓reduceIte,simprocAttr,xk B42 [2,2,2] .sq rfl,xk B42 [1,2,2,2] .sq rfl,rg B42 [1,1,2,2,2] 4 false rfl,hr_42_4,xk B42 [2,1,2,2,2] (.bk 0) rfl,xk B42 [2,2,1,2,2,2] .lp rfl,hh_42_5,hc_42_5]
 (try simp only [NM,EE] at hc3)
 rw [hc3 _ (by simp (maxSteps:=999999) (disch:=first|exact D (by decide)|exact K (by kernel_rfl)) only [E,EE,↓reduceIte,simprocAttr,hh_42_5,hc_42_5])]
 clear hc3
 cases o1 with
 | o0 _ _ _ _ _ _ _ _ _ _ _ _ _ _ =>
  (try dsimp only at hF)
  cases hF
 | o1 v4 v5 v6 v7 v8 v9 v10 v11 v12 v13 v14 v15 v16 v17 v18 =>
  (try dsimp only at hF)
  have hJ := f42_oF57p_wbiiiiiiiiiir_j3_ok k v4 v5 v6 v7 v8 v9 v10 v11 v12 v13 v14 v15 v16 v17 v18 _ hF
  simp (maxSteps:=999999) (disch:=first|exact D (by decide)|exact K (by kernel_rfl)) only [E,EE,↓reduceIte,simprocAttr,R42_oF57p_wbiiiiiiiiiir_l2.st]
  try simp only [NM,EE] at hJ
  exact hJ
noncomputable def f42_oF57p_wbiiiiiiiiiir_e (k:Nat) (e0:List T39) (e1 e1_1 e1_2 e1_3 e1_4 e1_5 e1_6 e1_7 e1_8 e1_9:Int) (e1_10:List Int) : Option R42_oF57p_wbiiiiiiiiiir :=
 Option.bind (f61_oF57p_wbiiiiiiiiiir k e0 e1 e1_1 e1_2 e1_3 e1_4 e1_5 e1_6 e1_7 e1_8 e1_9 e1_10) fun o1 =>
  match o1 with
  | .o0 v4 v5 v6 v7 v8 v9 v10 v11 v12 v13 v14 v15 v16 =>
   cond ((v4 == (-1)))
    (some (R42_oF57p_wbiiiiiiiiiir.o0 v5 v6 v7 v8 v9 v10 v11 v12 v13 v14 v15 v16))
    (f42_oF57p_wbiiiiiiiiiir_j1 k v4 false v5 v6 v7 v8 v9 v10 v11 v12 v13 v14 v15 v16)
theorem f42_oF57p_wbiiiiiiiiiir_e_ok (k:Nat) (e0:List T39) (e1 e1_1 e1_2 e1_3 e1_4 e1_5 e1_6 e1_7 e1_8 e1_9:Int) (e1_10:List Int) (r:R42_oF57p_wbiiiiiiiiiir) (hF:f42_oF57p_wbiiiiiiiiiir_e k e0 e1 e1_1 e1_2 e1_3 e1_4 e1_5 e1_6 e1_7 e1_8 e1_9 e1_10 = some r) : finK Try.prog Try.f42 2 (EX 42 k (nav B42 []) (⟨42,[(0,.own 1000000),(1,V.fn 57 [.ptr 1000001 0])],[(1000000,.row true 11 39 (rowsOf encT39 e0)),(1000001,.box 39 [.p (.int .i64 e1),.p (.int .i64 e1_1),.p (.int .u32 e1_2),.p (.int .i64 e1_3),.p (.int .i64 e1_4),.p (.int .i64 e1_5),.p (.int .i64 e1_6),.p (.int .i64 e1_7),.p (.int .i64 e1_8),.p (.int .i64 e1_9),.sl 1 (rowsOf (encI .u8) e1_10)])]⟩ : St)) = some r.st := by
 unfold f42_oF57p_wbiiiiiiiiiir_e at hF
 obtain ⟨o1,h2,hF⟩ := bs hF
 have hc3 := f61_oF57p_wbiiiiiiiiiir_ok k e0 e1 e1_1 e1_2 e1_3 e1_4 e1_5 e1_6 e1_7 e1_8 e1_9 e1_10 _ h2
 cases o1 with
 | o0 v4 v5 v6 v7 v8 v9 v10 v11 v12 v13 v14 v15 v16 =>
  (try dsimp only at hF)
  (try simp only [NM,EE,R61_oF57p_wbiiiiiiiiiir.st] at hc3)
  simp (maxSteps:=999999) (disch:=first|exact D (by decide)|exact K (by kernel_rfl)) only [E,EE,↓reduceIte,simprocAttr,xk B42 [] .sq rfl,rg B42 [1] 0 false rfl,hr_42_0,xk B42 [2] .sq rfl,rg B42 [1,2] 1 false rfl,hr_42_1,callStep,CL,gv,List.contains,xk B42 [2,2] .sq rfl,xk B42 [1,2,2] .sq rfl,rg B42 [1,1,2,2] 2 false rfl,hr_42_2,xk B42 [2,1,2,2] (.cd 12) rfl,hc3]
  rcases cond_some hF with ⟨h17,hF⟩ | ⟨h17,hF⟩
  ·cases hF
   simp (maxSteps:=999999) (disch:=first|exact D (by decide)|exact K (by kernel_rfl)) only [E,EE,↓reduceIte,simprocAttr,xk B42 [2,2,1,2,2] .sq rfl,rg B42 [1,2,2,1,2,2] 3 false rfl,hr_42_3,xk B42 [2,2,2,1,2,2] .rt rfl,finK_norm,finK_ret,fin42,R42_oF57p_wbiiiiiiiiiir.st,hc3,h17]
  ·have hJ := f42_oF57p_wbiiiiiiiiiir_j1_ok k v4 false v5 v6 v7 v8 v9 v10 v11 v12 v13 v14 v15 v16 _ hF
   simp (maxSteps:=999999) (disch:=first|exact D (by decide)|exact K (by kernel_rfl)) only [E,EE,↓reduceIte,simprocAttr,xk B42 [3,2,1,2,2] .sk rfl,hc3,h17]
   try simp only [NM,EE] at hJ
   exact hJ
noncomputable def f42_oF57p_wbiiiiiiiiiir (k:Nat) (e0:List T39) (e1 e1_1 e1_2 e1_3 e1_4 e1_5 e1_6 e1_7 e1_8 e1_9:Int) (e1_10:List Int) : Option R42_oF57p_wbiiiiiiiiiir := match k with | 0 => none | k + 1 => f42_oF57p_wbiiiiiiiiiir_e k e0 e1 e1_1 e1_2 e1_3 e1_4 e1_5 e1_6 e1_7 e1_8 e1_9 e1_10
theorem f42_oF57p_wbiiiiiiiiiir_ok (k:Nat) (e0:List T39) (e1 e1_1 e1_2 e1_3 e1_4 e1_5 e1_6 e1_7 e1_8 e1_9:Int) (e1_10:List Int) (r:R42_oF57p_wbiiiiiiiiiir) (hF:f42_oF57p_wbiiiiiiiiiir k e0 e1 e1_1 e1_2 e1_3 e1_4 e1_5 e1_6 e1_7 e1_8 e1_9 e1_10 = some r) : CV k 42 [.own 1000000,V.fn 57 [.ptr 1000001 0]] [.row true 11 39 (rowsOf encT39 e0),.box 39 [.p (.int .i64 e1),.p (.int .i64 e1_1),.p (.int .u32 e1_2),.p (.int .i64 e1_3),.p (.int .i64 e1_4),.p (.int .i64 e1_5),.p (.int .i64 e1_6),.p (.int .i64 e1_7),.p (.int .i64 e1_8),.p (.int .i64 e1_9),.sl 1 (rowsOf (encI .u8) e1_10)]] = some r.st := by
 cases k with
 | zero => cases hF
 | succ k =>
  unfold CV
  rw [ev_call (F := Try.f42) (c := (nav B42 [])) rfl Try.func42 rfl rfl rfl rfl]
  exact f42_oF57p_wbiiiiiiiiiir_e_ok k e0 e1 e1_1 e1_2 e1_3 e1_4 e1_5 e1_6 e1_7 e1_8 e1_9 e1_10 r hF
end Go.Proofs.YticggdfaehneeaaV