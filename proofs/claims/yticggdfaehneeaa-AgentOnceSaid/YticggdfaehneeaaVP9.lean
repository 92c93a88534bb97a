/- What the program's functions answer: plain functions,and that the interpreter answers what they do. Written by a program of this session,out of the translation. -/
import Derived.Test.YticggdfaehneeaaVP8
namespace Go.Proofs.YticggdfaehneeaaV
open Go
set_option linter.unusedVariables false
set_option linter.unusedSimpArgs false
set_option maxRecDepth 8000
set_option maxHeartbeats 4000000
-- f56_r: f56 heliograph/pieces.Join
inductive R56_r where
 | o0 (y y_1 y_2 y_3 y_4 y_5 y_6 y_7 y_8 y_9:Int) (y_10:List Int) (y_11:Int)
 | o1 (y y_1 y_2 y_3 y_4 y_5 y_6 y_7 y_8 y_9 y_10:Int) (y_11:List Int)
noncomputable def R56_r.st : R56_r → V × List O × List O
 | .o0 y y_1 y_2 y_3 y_4 y_5 y_6 y_7 y_8 y_9 y_10 y_11 => (V.tup [.agg [.p (.int .i64 y),.p (.int .i64 y_1),.p (.int .u32 y_2),.p (.int .i64 y_3),.p (.int .i64 y_4),.p (.int .i64 y_5),.p (.int .i64 y_6),.p (.int .i64 y_7),.p (.int .i64 y_8),.p (.int .i64 y_9),.sl 1 (rowsOf (encI .u8) y_10)],.p (.int .i64 y_11)],[],[])
 | .o1 y y_1 y_2 y_3 y_4 y_5 y_6 y_7 y_8 y_9 y_10 y_11 => (V.tup [.agg [.p (.int .i64 y),.p (.int .i64 y_1),.p (.int .u32 y_2),.p (.int .i64 y_3),.p (.int .i64 y_4),.p (.int .i64 y_5),.p (.int .i64 y_6),.p (.int .i64 y_7),.p (.int .i64 y_8),.p (.int .i64 y_9),.own 2000000],.p (.int .i64 y_10)],[],[.row true 1 5 (rowsOf (encI .u8) y_11)])
inductive R56_r_l2 where
 | o0 (y:List T39) (y_1 y_2 y_3 y_4 y_5 y_6 y_7 y_8 y_9 y_10 y_11 y_12:Int) (y_13:List Int) (y_14 y_15 y_16 y_17 y_18 y_19 y_20 y_21 y_22 y_23:Int) (y_24:List Int)
 | o1 (y:List T39) (y_1 y_2:Int) (y_3:Bool) (y_4 y_5 y_6 y_7 y_8 y_9 y_10 y_11 y_12 y_13:Int) (y_14:List Int) (y_15 y_16 y_17 y_18 y_19 y_20 y_21 y_22 y_23 y_24:Int) (y_25:List Int)
noncomputable def R56_r_l2.st : R56_r_l2 → Out × St
 | .o0 y y_1 y_2 y_3 y_4 y_5 y_6 y_7 y_8 y_9 y_10 y_11 y_12 y_13 y_14 y_15 y_16 y_17 y_18 y_19 y_20 y_21 y_22 y_23 y_24 => (.norm,(⟨47,[(2,.ptr 30000 0),(7,.ptr 30001 0),(33,.sl 11 (rowsOf encT39 y)),(34,.p (.int .i64 y_1)),(35,.p (.int .i64 y_2))],[(30000,.box 39 [.p (.int .i64 y_3),.p (.int .i64 y_4),.p (.int .u32 y_5),.p (.int .i64 y_6),.p (.int .i64 y_7),.p (.int .i64 y_8),.p (.int .i64 y_9),.p (.int .i64 y_10),.p (.int .i64 y_11),.p (.int .i64 y_12),.sl 1 (rowsOf (encI .u8) y_13)]),(30001,.box 39 [.p (.int .i64 y_14),.p (.int .i64 y_15),.p (.int .u32 y_16),.p (.int .i64 y_17),.p (.int .i64 y_18),.p (.int .i64 y_19),.p (.int .i64 y_20),.p (.int .i64 y_21),.p (.int .i64 y_22),.p (.int .i64 y_23),.sl 1 (rowsOf (encI .u8) y_24)])]⟩ : St))
 | .o1 y y_1 y_2 y_3 y_4 y_5 y_6 y_7 y_8 y_9 y_10 y_11 y_12 y_13 y_14 y_15 y_16 y_17 y_18 y_19 y_20 y_21 y_22 y_23 y_24 y_25 => (.exit 1,(⟨47,[(2,.ptr 30000 0),(7,.ptr 30001 0),(33,.sl 11 (rowsOf encT39 y)),(34,.p (.int .i64 y_1)),(35,.p (.int .i64 y_2)),(36,.p (.bool y_3))],[(30000,.box 39 [.p (.int .i64 y_4),.p (.int .i64 y_5),.p (.int .u32 y_6),.p (.int .i64 y_7),.p (.int .i64 y_8),.p (.int .i64 y_9),.p (.int .i64 y_10),.p (.int .i64 y_11),.p (.int .i64 y_12),.p (.int .i64 y_13),.sl 1 (rowsOf (encI .u8) y_14)]),(30001,.box 39 [.p (.int .i64 y_15),.p (.int .i64 y_16),.p (.int .u32 y_17),.p (.int .i64 y_18),.p (.int .i64 y_19),.p (.int .i64 y_20),.p (.int .i64 y_21),.p (.int .i64 y_22),.p (.int .i64 y_23),.p (.int .i64 y_24),.sl 1 (rowsOf (encI .u8) y_25)])]⟩ : St))
noncomputable def f56_r_l2_j2 (k:Nat) (x33:List T39) (x34 x35 h0_ h0__1 h0__2 h0__3 h0__4 h0__5 h0__6 h0__7 h0__8 h0__9:Int) (h0__10:List Int) (h1_ h1__1 h1__2 h1__3 h1__4 h1__5 h1__6 h1__7 h1__8 h1__9:Int) (h1__10:List Int) : Option R56_r_l2 :=
 some (R56_r_l2.o0 x33 x34 (IntKind.i64.wrap (x35 + (1:Int))) h0_ h0__1 h0__2 h0__3 h0__4 h0__5 h0__6 h0__7 h0__8 h0__9 h0__10 h1_ h1__1 h1__2 h1__3 h1__4 h1__5 h1__6 h1__7 h1__8 h1__9 h1__10)
theorem f56_r_l2_j2_ok (k:Nat) (x33:List T39) (x34 x35 h0_ h0__1 h0__2 h0__3 h0__4 h0__5 h0__6 h0__7 h0__8 h0__9:Int) (h0__10:List Int) (h1_ h1__1 h1__2 h1__3 h1__4 h1__5 h1__6 h1__7 h1__8 h1__9:Int) (h1__10:List Int) (r:R56_r_l2) (hF:f56_r_l2_j2 k x33 x34 x35 h0_ h0__1 h0__2 h0__3 h0__4 h0__5 h0__6 h0__7 h0__8 h0__9 h0__10 h1_ h1__1 h1__2 h1__3 h1__4 h1__5 h1__6 h1__7 h1__8 h1__9 h1__10 = some r) : EX 56 k (nav B56 [2,2,2,1,2,2,1,2,2,2,2,2]) (⟨47,[(2,.ptr 30000 0),(7,.ptr 30001 0),(33,.sl 11 (rowsOf encT39 x33)),(34,.p (.int .i64 x34)),(35,.p (.int .i64 x35))],[(30000,.box 39 [.p (.int .i64 h0_),.p (.int .i64 h0__1),.p (.int .u32 h0__2),.p (.int .i64 h0__3),.p (.int .i64 h0__4),.p (.int .i64 h0__5),.p (.int .i64 h0__6),.p (.int .i64 h0__7),.p (.int .i64 h0__8),.p (.int .i64 h0__9),.sl 1 (rowsOf (encI .u8) h0__10)]),(30001,.box 39 [.p (.int .i64 h1_),.p (.int .i64 h1__1),.p (.int .u32 h1__2),.p (.int .i64 h1__3),.p (.int .i64 h1__4),.p (.int .i64 h1__5),.p (.int .i64 h1__6),.p (.int .i64 h1__7),.p (.int .i64 h1__8),.p (.int .i64 h1__9),.sl 1 (rowsOf (encI .u8) h1__10)])]⟩ : St) = some r.st := by
 unfold f56_r_l2_j2 at hF
 cases hF
 simp (maxSteps:=999999) (disch:=first|exact D (by decide)|exact K (by kernel_rfl)) only [E,EE,↓reduceIte,simprocAttr,rg B56 [2,2,2,1,2,2,1,2,2,2,2,2] 12 false rfl,hr_56_12,R56_r_l2.st]
noncomputable def f56_r_l2_j1 (k:Nat) (x33:List T39) (x34 x35:Int) (x36:Bool) (h0_ h0__1 h0__2 h0__3 h0__4 h0__5 h0__6 h0__7 h0__8 h0__9:Int) (h0__10:List Int) (h1_ h1__1 h1__2 h1__3 h1__4 h1__5 h1__6 h1__7 h1__8 h1__9:Int) (h1__10:List Int) : Option R56_r_l2 :=
 ifE ((0:Int) ≤ x35) (
  Option.bind (x33[(Int.toNat x35)]?) fun v2 =>
   f56_r_l2_j2 k x33 x34 x35 h0_ h0__1 h0__2 h0__3 h0__4 h0__5 h0__6 h0__7 h0__8 h0__9 h0__10 h1_ h1__1 h1__2 h1__3 h1__4 h1__5 (if v2.Hops > h1__6 then v2.Hops else h1__6) h1__7 h1__8 h1__9 h1__10)
theorem f56_r_l2_j1_ok (k:Nat) (x33:List T39) (x34 x35:Int) (x36:Bool) (h0_ h0__1 h0__2 h0__3 h0__4 h0__5 h0__6 h0__7 h0__8 h0__9:Int) (h0__10:List Int) (h1_ h1__1 h1__2 h1__3 h1__4 h1__5 h1__6 h1__7 h1__8 h1__9:Int) (h1__10:List Int) (r:R56_r_l2) (hF:f56_r_l2_j1 k x33 x34 x35 x36 h0_ h0__1 h0__2 h0__3 h0__4 h0__5 h0__6 h0__7 h0__8 h0__9 h0__10 h1_ h1__1 h1__2 h1__3 h1__4 h1__5 h1__6 h1__7 h1__8 h1__9 h1__10 = some r) : EX 56 k (nav B56 [2,2,1,2,2,1,2,2,2,2,2]) (⟨47,[(2,.ptr 30000 0),(7,.ptr 30001 0),(33,.sl 11 (rowsOf encT39 x33)),(34,.p (.int .i64 x34)),(35,.p (.int .i64 x35)),(36,.p (.bool x36))],[(30000,.box 39 [.p (.int .i64 h0_),.p (.int .i64 h0__1),.p (.int .u32 h0__2),.p (.int .i64 h0__3),.p (.int .i64 h0__4),.p (.int .i64 h0__5),.p (.int .i64 h0__6),.p (.int .i64 h0__7),.p (.int .i64 h0__8),.p (.int .i64 h0__9),.sl 1 (rowsOf (encI .u8) h0__10)]),(30001,.box 39 [.p (.int .i64 h1_),.p (.int .i64 h1__1),.p (.int .u32 h1__2),.p (.int .i64 h1__3),.p (.int .i64 h1__4),.p (.int .i64 h1__5),.p (.int .i64 h1__6),.p (.int .i64 h1__7),.p (.int .i64 h1__8),.p (.int .i64 h1__9),.sl 1 (rowsOf (encI .u8) h1__10)])]⟩ : St) = some r.st := by
 unfold f56_r_l2_j1 at hF
 obtain ⟨h1,hF⟩ := ifE_some.1 hF
 obtain ⟨v2,h3,hF⟩ := bs hF
 have hJ := f56_r_l2_j2_ok k x33 x34 x35 h0_ h0__1 h0__2 h0__3 h0__4 h0__5 h0__6 h0__7 h0__8 h0__9 h0__10 h1_ h1__1 h1__2 h1__3 h1__4 h1__5 (if v2.Hops > h1__6 then v2.Hops else h1__6) h1__7 h1__8 h1__9 h1__10 _ hF
 simp (maxSteps:=999999) (disch:=first|exact D (by decide)|exact K (by kernel_rfl)) only [E,EE,↓reduceIte,simprocAttr,xk B56 [2,2,1,2,2,1,2,2,2,2,2] .sq rfl,xk B56 [1,2,2,1,2,2,1,2,2,2,2,2] (.bk 2) rfl,xk B56 [2,1,2,2,1,2,2,1,2,2,2,2,2] .sq rfl,rg B56 [1,2,1,2,2,1,2,2,1,2,2,2,2,2] 10 false rfl,hr_56_10,indexAddrV,t_24,t_39,encT39_eq,rg B56 [2,2,1,2,2,1,2,2,1,2,2,2,2,2] 11 false rfl,hr_56_11,fieldAddrV,t_3,minmaxV,minmaxGo,h1,h3]
 try simp only [NM,EE] at hJ
 exact hJ
noncomputable def f56_r_l2_b (k:Nat) (x33:List T39) (x34 x35 h0_ h0__1 h0__2 h0__3 h0__4 h0__5 h0__6 h0__7 h0__8 h0__9:Int) (h0__10:List Int) (h1_ h1__1 h1__2 h1__3 h1__4 h1__5 h1__6 h1__7 h1__8 h1__9:Int) (h1__10:List Int) : Option R56_r_l2 :=
 cond ((decide (x35 < x34)))
  (f56_r_l2_j1 k x33 x34 x35 true h0_ h0__1 h0__2 h0__3 h0__4 h0__5 h0__6 h0__7 h0__8 h0__9 h0__10 h1_ h1__1 h1__2 h1__3 h1__4 h1__5 h1__6 h1__7 h1__8 h1__9 h1__10)
  (some (R56_r_l2.o1 x33 x34 x35 false h0_ h0__1 h0__2 h0__3 h0__4 h0__5 h0__6 h0__7 h0__8 h0__9 h0__10 h1_ h1__1 h1__2 h1__3 h1__4 h1__5 h1__6 h1__7 h1__8 h1__9 h1__10))
theorem f56_r_l2_b_ok (k:Nat) (x33:List T39) (x34 x35 h0_ h0__1 h0__2 h0__3 h0__4 h0__5 h0__6 h0__7 h0__8 h0__9:Int) (h0__10:List Int) (h1_ h1__1 h1__2 h1__3 h1__4 h1__5 h1__6 h1__7 h1__8 h1__9:Int) (h1__10:List Int) (r:R56_r_l2) (hF:f56_r_l2_b k x33 x34 x35 h0_ h0__1 h0__2 h0__3 h0__4 h0__5 h0__6 h0__7 h0__8 h0__9 h0__10 h1_ h1__1 h1__2 h1__3 h1__4 h1__5 h1__6 h1__7 h1__8 h1__9 h1__10 = some r) : EX 56 k (nav B56 [1,2,2,1,2,2,2,2,2]) (⟨47,[(2,.ptr 30000 0),(7,.ptr 30001 0),(33,.sl 11 (rowsOf encT39 x33)),(34,.p (.int .i64 x34)),(35,.p (.int .i64 x35))],[(30000,.box 39 [.p (.int .i64 h0_),.p (.int .i64 h0__1),.p (.int .u32 h0__2),.p (.int .i64 h0__3),.p (.int .i64 h0__4),.p (.int .i64 h0__5),.p (.int .i64 h0__6),.p (.int .i64 h0__7),.p (.int .i64 h0__8),.p (.int .i64 h0__9),.sl 1 (rowsOf (encI .u8) h0__10)]),(30001,.box 39 [.p (.int .i64 h1_),.p (.int .i64 h1__1),.p (.int .u32 h1__2),.p (.int .i64 h1__3),.p (.int .i64 h1__4),.p (.int .i64 h1__5),.p (.int .i64 h1__6),.p (.int .i64 h1__7),.p (.int .i64 h1__8),.p (.int .i64 h1__9),.sl 1 (rowsOf (encI .u8) h1__10)])]⟩ : St) = some r.st := by
 unfold f56_r_l2_b at hF
 simp (maxSteps:=999999) (disch:=first|exact D (by decide)|exact K (by kernel_rfl)) only [E,EE,↓reduceIte,simprocAttr,xk B56 [1,2,2,1,2,2,2,2,2] .sq rfl,rg B56 [1,1,2,2,1,2,2,2,2,2] 9 false rfl,hr_56_9,xk B56 [2,1,2,2,1,2,2,2,2,2] .sq rfl,xk B56 [1,2,1,2,2,1,2,2,2,2,2] (.cd 36) rfl]
 rcases cond_some hF with ⟨h1,hF⟩ | ⟨h1,hF⟩
 ·have hJ := f56_r_l2_j1_ok k x33 x34 x35 true h0_ h0__1 h0__2 h0__3 h0__4 h0__5 h0__6 h0__7 h0__8 h0__9 h0__10 h1_ h1__1 h1__2 h1__3 h1__4 h1__5 h1__6 h1__7 h1__8 h1__9 h1__10 _ hF
  simp (maxSteps:=999999) (disch:=first|exact D (by decide)|exact K (by kernel_rfl)) only [E,EE,↓reduceIte,simprocAttr,xk B56 [2,1,2,1,2,2,1,2,2,2,2,2] .sk rfl,h1]
  try simp only [NM,EE] at hJ
  exact hJ
 ·cases hF
  simp (maxSteps:=999999) (disch:=first|exact D (by decide)|exact K (by kernel_rfl)) only [E,EE,↓reduceIte,simprocAttr,xk B56 [3,1,2,1,2,2,1,2,2,2,2,2] (.ex 1) rfl,R56_r_l2.st,h1]
noncomputable def f56_r_l2 (k:Nat) : Nat → (List T39) → Int → Int → Int → Int → Int → Int → Int → Int → Int → Int → Int → Int → (List Int) → Int → Int → Int → Int → Int → Int → Int → Int → Int → Int → (List Int) → Option R56_r_l2
 | 0,_,_,_,_,_,_,_,_,_,_,_,_,_,_,_,_,_,_,_,_,_,_,_,_,_ => none
 | n + 1,x33,x34,x35,h0_,h0__1,h0__2,h0__3,h0__4,h0__5,h0__6,h0__7,h0__8,h0__9,h0__10,h1_,h1__1,h1__2,h1__3,h1__4,h1__5,h1__6,h1__7,h1__8,h1__9,h1__10 => Option.bind (f56_r_l2_b k x33 x34 x35 h0_ h0__1 h0__2 h0__3 h0__4 h0__5 h0__6 h0__7 h0__8 h0__9 h0__10 h1_ h1__1 h1__2 h1__3 h1__4 h1__5 h1__6 h1__7 h1__8 h1__9 h1__10) fun o =>
  match o with
  | .o0 y y_1 y_2 y_3 y_4 y_5 y_6 y_7 y_8 y_9 y_10 y_11 y_12 y_13 y_14 y_15 y_16 y_17 y_18 y_19 y_20 y_21 y_22 y_23 y_24 => f56_r_l2 k n y y_1 y_2 y_3 y_4 y_5 y_6 y_7 y_8 y_9 y_10 y_11 y_12 y_13 y_14 y_15 y_16 y_17 y_18 y_19 y_20 y_21 y_22 y_23 y_24
  | .o1 y y_1 y_2 y_3 y_4 y_5 y_6 y_7 y_8 y_9 y_10 y_11 y_12 y_13 y_14 y_15 y_16 y_17 y_18 y_19 y_20 y_21 y_22 y_23 y_24 y_25 => some (.o1 y y_1 y_2 y_3 y_4 y_5 y_6 y_7 y_8 y_9 y_10 y_11 y_12 y_13 y_14 y_15 y_16 y_17 y_18 y_19 y_20 y_21 y_22 y_23 y_24 y_25)
theorem f56_r_l2_ok (k n:Nat) : ∀ (x33:List T39) (x34 x35 h0_ h0__1 h0__2 h0__3 h0__4 h0__5 h0__6 h0__7 h0__8 h0__9:Int) (h0__10:List Int) (h1_ h1__1 h1__2 h1__3 h1__4 h1__5 h1__6 h1__7 h1__8 h1__9:Int) (h1__10:List Int) (r:R56_r_l2) (hF:f56_r_l2 k n x33 x34 x35 h0_ h0__1 h0__2 h0__3 h0__4 h0__5 h0__6 h0__7 h0__8 h0__9 h0__10 h1_ h1__1 h1__2 h1__3 h1__4 h1__5 h1__6 h1__7 h1__8 h1__9 h1__10 = some r) (σ:St) (hσ:headR (hints.head 56 9) (hints.canon 56 9) σ = some (⟨47,[(2,.ptr 30000 0),(7,.ptr 30001 0),(33,.sl 11 (rowsOf encT39 x33)),(34,.p (.int .i64 x34)),(35,.p (.int .i64 x35))],[(30000,.box 39 [.p (.int .i64 h0_),.p (.int .i64 h0__1),.p (.int .u32 h0__2),.p (.int .i64 h0__3),.p (.int .i64 h0__4),.p (.int .i64 h0__5),.p (.int .i64 h0__6),.p (.int .i64 h0__7),.p (.int .i64 h0__8),.p (.int .i64 h0__9),.sl 1 (rowsOf (encI .u8) h0__10)]),(30001,.box 39 [.p (.int .i64 h1_),.p (.int .i64 h1__1),.p (.int .u32 h1__2),.p (.int .i64 h1__3),.p (.int .i64 h1__4),.p (.int .i64 h1__5),.p (.int .i64 h1__6),.p (.int .i64 h1__7),.p (.int .i64 h1__8),.p (.int .i64 h1__9),.sl 1 (rowsOf (encI .u8) h1__10)])]⟩ : St)),LP 56 k (nav B56 [1,2,2,1,2,2,2,2,2]) n σ = some r.st := by
 induction n with
 | zero => intro x33 x34 x35 h0_ h0__1 h0__2 h0__3 h0__4 h0__5 h0__6 h0__7 h0__8 h0__9 h0__10 h1_ h1__1 h1__2 h1__3 h1__4 h1__5 h1__6 h1__7 h1__8 h1__9 h1__10 r hF; cases hF
 | succ n ih =>
  intro x33 x34 x35 h0_ h0__1 h0__2 h0__3 h0__4 h0__5 h0__6 h0__7 h0__8 h0__9 h0__10 h1_ h1__1 h1__2 h1__3 h1__4 h1__5 h1__6 h1__7 h1__8 h1__9 h1__10 r hF σ hσ
  rw [f56_r_l2] at hF
  obtain ⟨o,h,hF⟩ := Option.bind_eq_some_iff.1 hF
  have hB := f56_r_l2_b_ok k x33 x34 x35 h0_ h0__1 h0__2 h0__3 h0__4 h0__5 h0__6 h0__7 h0__8 h0__9 h0__10 h1_ h1__1 h1__2 h1__3 h1__4 h1__5 h1__6 h1__7 h1__8 h1__9 h1__10 o h
  unfold LP at ih ⊢
  unfold EX at hB
  rw [loopK_succ,show firstReg (nav B56 [1,2,2,1,2,2,2,2,2]) = 9 from rfl,hσ,headK_some,hB]
  cases o with
  | o0 y y_1 y_2 y_3 y_4 y_5 y_6 y_7 y_8 y_9 y_10 y_11 y_12 y_13 y_14 y_15 y_16 y_17 y_18 y_19 y_20 y_21 y_22 y_23 y_24 =>
   refine ih y y_1 y_2 y_3 y_4 y_5 y_6 y_7 y_8 y_9 y_10 y_11 y_12 y_13 y_14 y_15 y_16 y_17 y_18 y_19 y_20 y_21 y_22 y_23 y_24 r hF _ ?_
   simp (maxSteps:=999999) (disch:=first|exact D (by decide)|exact K (by kernel_rfl)) only [E,EE,↓reduceIte,simprocAttr,hh_56_9,hc_56_9]
  | o1 y y_1 y_2 y_3 y_4 y_5 y_6 y_7 y_8 y_9 y_10 y_11 y_12 y_13 y_14 y_15 y_16 y_17 y_18 y_19 y_20 y_21 y_22 y_23 y_24 y_25 => cases hF; rfl
noncomputable def f56_r_j3 (k:Nat) (x33:List T39) (x34 x35:Int) (x36:Bool) (h0_ h0__1 h0__2 h0__3 h0__4 h0__5 h0__6 h0__7 h0__8 h0__9:Int) (h0__10:List Int) (h1_ h1__1 h1__2 h1__3 h1__4 h1__5 h1__6 h1__7 h1__8 h1__9:Int) (h1__10:List Int) : Option R56_r :=
 some (R56_r.o0 h1_ h1__1 h1__2 h1__3 h1__4 h1__5 h1__6 h1__7 h1__8 h1__9 h1__10 0)
theorem f56_r_j3_ok (k:Nat) (x33:List T39) (x34 x35:Int) (x36:Bool) (h0_ h0__1 h0__2 h0__3 h0__4 h0__5 h0__6 h0__7 h0__8 h0__9:Int) (h0__10:List Int) (h1_ h1__1 h1__2 h1__3 h1__4 h1__5 h1__6 h1__7 h1__8 h1__9:Int) (h1__10:List Int) (r:R56_r) (hF:f56_r_j3 k x33 x34 x35 x36 h0_ h0__1 h0__2 h0__3 h0__4 h0__5 h0__6 h0__7 h0__8 h0__9 h0__10 h1_ h1__1 h1__2 h1__3 h1__4 h1__5 h1__6 h1__7 h1__8 h1__9 h1__10 = some r) : finK Try.prog Try.f56 0 (EX 56 k (nav B56 [2,2,2,2,2,2]) (⟨47,[(2,.ptr 30000 0),(7,.ptr 30001 0),(33,.sl 11 (rowsOf encT39 x33)),(34,.p (.int .i64 x34)),(35,.p (.int .i64 x35)),(36,.p (.bool x36))],[(30000,.box 39 [.p (.int .i64 h0_),.p (.int .i64 h0__1),.p (.int .u32 h0__2),.p (.int .i64 h0__3),.p (.int .i64 h0__4),.p (.int .i64 h0__5),.p (.int .i64 h0__6),.p (.int .i64 h0__7),.p (.int .i64 h0__8),.p (.int .i64 h0__9),.sl 1 (rowsOf (encI .u8) h0__10)]),(30001,.box 39 [.p (.int .i64 h1_),.p (.int .i64 h1__1),.p (.int .u32 h1__2),.p (.int .i64 h1__3),.p (.int .i64 h1__4),.p (.int .i64 h1__5),.p (.int .i64 h1__6),.p (.int .i64 h1__7),.p (.int .i64 h1__8),.p (.int .i64 h1__9),.sl 1 (rowsOf (encI .u8) h1__10)])]⟩ : St)) = some r.st := by
 unfold f56_r_j3 at hF
 cases hF
 simp (maxSteps:=999999) (disch:=first|exact D (by decide)|exact K (by kernel_rfl)) only [E,EE,↓reduceIte,simprocAttr,xk B56 [2,2,2,2,2,2] .sq rfl,rg B56 [1,2,2,2,2,2,2] 13 false rfl,hr_56_13,t_39,xk B56 [2,2,2,2,2,2,2] .rt rfl,finK_norm,finK_ret,fin56,R56_r.st]
noncomputable def f56_r_j1 (k:Nat) (x0:List T39) (x5:List Int) (x21:Bool) (m2 m2_1 m2_2 m2_3 m2_4 m2_5 m2_6 m2_7 m2_8 m2_9:Int) (m2_10:List Int) : Option R56_r :=
 Option.bind (x0[0]?) fun v1 =>
  Option.bind (f56_r_l2 k k x0 ((List.length x0) : Int) 0 m2 m2_1 m2_2 m2_3 m2_4 m2_5 m2_6 m2_7 m2_8 m2_9 m2_10 v1.Source v1.Dest v1.Seq v1.Created v1.Lifetime v1.HopLimit v1.Hops v1.Priority 0 v1.Total x5) fun o3 =>
   match o3 with
   | .o0 _ _ _ _ _ _ _ _ _ _ _ _ _ _ _ _ _ _ _ _ _ _ _ _ _ =>
    none
   | .o1 v6 v7 v8 v9 v10 v11 v12 v13 v14 v15 v16 v17 v18 v19 v20 v21 v22 v23 v24 v25 v26 v27 v28 v29 v30 v31 =>
    f56_r_j3 k v6 v7 v8 v9 v10 v11 v12 v13 v14 v15 v16 v17 v18 v19 v20 v21 v22 v23 v24 v25 v26 v27 v28 v29 v30 v31
theorem f56_r_j1_ok (k:Nat) (x0:List T39) (x5:List Int) (x21:Bool) (m2 m2_1 m2_2 m2_3 m2_4 m2_5 m2_6 m2_7 m2_8 m2_9:Int) (m2_10:List Int) (r:R56_r) (hF:f56_r_j1 k x0 x5 x21 m2 m2_1 m2_2 m2_3 m2_4 m2_5 m2_6 m2_7 m2_8 m2_9 m2_10 = some r) : finK Try.prog Try.f56 0 (EX 56 k (nav B56 [2,2,2]) (⟨47,[(0,.sl 11 (rowsOf encT39 x0)),(2,.ptr 2 0),(5,.sl 1 (rowsOf (encI .u8) x5)),(21,.p (.bool x21))],[(2,.box 39 [.p (.int .i64 m2),.p (.int .i64 m2_1),.p (.int .u32 m2_2),.p (.int .i64 m2_3),.p (.int .i64 m2_4),.p (.int .i64 m2_5),.p (.int .i64 m2_6),.p (.int .i64 m2_7),.p (.int .i64 m2_8),.p (.int .i64 m2_9),.sl 1 (rowsOf (encI .u8) m2_10)])]⟩ : St)) = some r.st := by
 unfold f56_r_j1 at hF
 obtain ⟨v1,h2,hF⟩ := bs hF
 obtain ⟨o3,h4,hF⟩ := bs hF
 have hc5 := f56_r_l2_ok k k x0 ((List.length x0) : Int) 0 m2 m2_1 m2_2 m2_3 m2_4 m2_5 m2_6 m2_7 m2_8 m2_9 m2_10 v1.Source v1.Dest v1.Seq v1.Created v1.Lifetime v1.HopLimit v1.Hops v1.Priority 0 v1.Total x5 _ h4
 simp (maxSteps:=999999) (disch:=first|exact D (by decide)|exact K (by kernel_rfl)) only [E,EE,↓reduceIte,simprocAttr,xk B56 [2,2,2] .sq rfl,rg B56 [1,2,2,2] 6 false rfl,hr_56_6,indexAddrV,t_24,t_39,encT39_eq,xk B56 [2,2,2,2] .sq rfl,rg B56 [1,2,2,2,2] 7 false rfl,hr_56_7,fieldAddrV,t_3,t_29,xk B56 [2,2,2,2,2] .sq rfl,xk B56 [1,2,2,2,2,2] .sq rfl,rg B56 [1,1,2,2,2,2,2] 8 false rfl,hr_56_8,xk B56 [2,1,2,2,2,2,2] (.bk 1) rfl,xk B56 [2,2,1,2,2,2,2,2] .lp rfl,hh_56_9,hc_56_9,h2]
 (try simp only [NM,EE] at hc5)
 rw [hc5 _ (by simp (maxSteps:=999999) (disch:=first|exact D (by decide)|exact K (by kernel_rfl)) only [E,EE,↓reduceIte,simprocAttr,hh_56_9,hc_56_9,h2])]
 clear hc5
 cases o3 with
 | o0 _ _ _ _ _ _ _ _ _ _ _ _ _ _ _ _ _ _ _ _ _ _ _ _ _ =>
  (try dsimp only at hF)
  cases hF
 | o1 v6 v7 v8 v9 v10 v11 v12 v13 v14 v15 v16 v17 v18 v19 v20 v21 v22 v23 v24 v25 v26 v27 v28 v29 v30 v31 =>
  (try dsimp only at hF)
  have hJ := f56_r_j3_ok k v6 v7 v8 v9 v10 v11 v12 v13 v14 v15 v16 v17 v18 v19 v20 v21 v22 v23 v24 v25 v26 v27 v28 v29 v30 v31 _ hF
  simp (maxSteps:=999999) (disch:=first|exact D (by decide)|exact K (by kernel_rfl)) only [E,EE,↓reduceIte,simprocAttr,R56_r_l2.st,h2]
  try simp only [NM,EE] at hJ
  exact hJ
inductive R56_r_l5 where
 | o0 (y:List T39) (y_1 y_2 y_3 y_4 y_5 y_6 y_7 y_8 y_9 y_10 y_11 y_12:Int) (y_13:List Int) (y_14 y_15 y_16 y_17 y_18 y_19 y_20 y_21 y_22 y_23:Int) (y_24:List Int)
 | o1 (y:List T39) (y_1 y_2:Int) (y_3:Bool) (y_4 y_5 y_6 y_7 y_8 y_9 y_10 y_11 y_12 y_13:Int) (y_14:List Int) (y_15 y_16 y_17 y_18 y_19 y_20 y_21 y_22 y_23 y_24:Int) (y_25:List Int)
noncomputable def R56_r_l5.st : R56_r_l5 → Out × St
 | .o0 y y_1 y_2 y_3 y_4 y_5 y_6 y_7 y_8 y_9 y_10 y_11 y_12 y_13 y_14 y_15 y_16 y_17 y_18 y_19 y_20 y_21 y_22 y_23 y_24 => (.norm,(⟨47,[(2,.ptr 30000 0),(7,.ptr 30001 0),(33,.sl 11 (rowsOf encT39 y)),(34,.p (.int .i64 y_1)),(35,.p (.int .i64 y_2))],[(30000,.box 39 [.p (.int .i64 y_3),.p (.int .i64 y_4),.p (.int .u32 y_5),.p (.int .i64 y_6),.p (.int .i64 y_7),.p (.int .i64 y_8),.p (.int .i64 y_9),.p (.int .i64 y_10),.p (.int .i64 y_11),.p (.int .i64 y_12),.sl 1 (rowsOf (encI .u8) y_13)]),(30001,.box 39 [.p (.int .i64 y_14),.p (.int .i64 y_15),.p (.int .u32 y_16),.p (.int .i64 y_17),.p (.int .i64 y_18),.p (.int .i64 y_19),.p (.int .i64 y_20),.p (.int .i64 y_21),.p (.int .i64 y_22),.p (.int .i64 y_23),.own 30002]),(30002,.row true 1 5 (rowsOf (encI .u8) y_24))]⟩ : St))
 | .o1 y y_1 y_2 y_3 y_4 y_5 y_6 y_7 y_8 y_9 y_10 y_11 y_12 y_13 y_14 y_15 y_16 y_17 y_18 y_19 y_20 y_21 y_22 y_23 y_24 y_25 => (.exit 1,(⟨47,[(2,.ptr 30000 0),(7,.ptr 30001 0),(33,.sl 11 (rowsOf encT39 y)),(34,.p (.int .i64 y_1)),(35,.p (.int .i64 y_2)),(36,.p (.bool y_3))],[(30000,.box 39 [.p (.int .i64 y_4),.p (.int .i64 y_5),.p (.int .u32 y_6),.p (.int .i64 y_7),.p (.int .i64 y_8),.p (.int .i64 y_9),.p (.int .i64 y_10),.p (.int .i64 y_11),.p (.int .i64 y_12),.p (.int .i64 y_13),.sl 1 (rowsOf (encI .u8) y_14)]),(30001,.box 39 [.p (.int .i64 y_15),.p (.int .i64 y_16),.p (.int .u32 y_17),.p (.int .i64 y_18),.p (.int .i64 y_19),.p (.int .i64 y_20),.p (.int .i64 y_21),.p (.int .i64 y_22),.p (.int .i64 y_23),.p (.int .i64 y_24),.own 30002]),(30002,.row true 1 5 (rowsOf (encI .u8) y_25))]⟩ : St))
noncomputable def f56_r_l5_j2 (k:Nat) (x33:List T39) (x34 x35 h0_ h0__1 h0__2 h0__3 h0__4 h0__5 h0__6 h0__7 h0__8 h0__9:Int) (h0__10:List Int) (h1_ h1__1 h1__2 h1__3 h1__4 h1__5 h1__6 h1__7 h1__8 h1__9:Int) (h2_:List Int) : Option R56_r_l5 :=
 some (R56_r_l5.o0 x33 x34 (IntKind.i64.wrap (x35 + (1:Int))) h0_ h0__1 h0__2 h0__3 h0__4 h0__5 h0__6 h0__7 h0__8 h0__9 h0__10 h1_ h1__1 h1__2 h1__3 h1__4 h1__5 h1__6 h1__7 h1__8 h1__9 h2_)
theorem f56_r_l5_j2_ok (k:Nat) (x33:List T39) (x34 x35 h0_ h0__1 h0__2 h0__3 h0__4 h0__5 h0__6 h0__7 h0__8 h0__9:Int) (h0__10:List Int) (h1_ h1__1 h1__2 h1__3 h1__4 h1__5 h1__6 h1__7 h1__8 h1__9:Int) (h2_:List Int) (r:R56_r_l5) (hF:f56_r_l5_j2 k x33 x34 x35 h0_ h0__1 h0__2 h0__3 h0__4 h0__5 h0__6 h0__7 h0__8 h0__9 h0__10 h1_ h1__1 h1__2 h1__3 h1__4 h1__5 h1__6 h1__7 h1__8 h1__9 h2_ = some r) : EX 56 k (nav B56 [2,2,2,1,2,2,1,2,2,2,2,2]) (⟨47,[(2,.ptr 30000 0),(7,.ptr 30001 0),(33,.sl 11 (rowsOf encT39 x33)),(34,.p (.int .i64 x34)),(35,.p (.int .i64 x35))],[(30000,.box 39 [.p (.int .i64 h0_),.p (.int .i64 h0__1),.p (.int .u32 h0__2),.p (.int .i64 h0__3),.p (.int .i64 h0__4),.p (.int .i64 h0__5),.p (.int .i64 h0__6),.p (.int .i64 h0__7),.p (.int .i64 h0__8),.p (.int .i64 h0__9),.sl 1 (rowsOf (encI .u8) h0__10)]),(30001,.box 39 [.p (.int .i64 h1_),.p (.int .i64 h1__1),.p (.int .u32 h1__2),.p (.int .i64 h1__3),.p (.int .i64 h1__4),.p (.int .i64 h1__5),.p (.int .i64 h1__6),.p (.int .i64 h1__7),.p (.int .i64 h1__8),.p (.int .i64 h1__9),.own 30002]),(30002,.row true 1 5 (rowsOf (encI .u8) h2_))]⟩ : St) = some r.st := by
 unfold f56_r_l5_j2 at hF
 cases hF
 simp (maxSteps:=999999) (disch:=first|exact D (by decide)|exact K (by kernel_rfl)) only [E,EE,↓reduceIte,simprocAttr,rg B56 [2,2,2,1,2,2,1,2,2,2,2,2] 12 false rfl,hr_56_12,R56_r_l5.st]
noncomputable def f56_r_l5_j1 (k:Nat) (x33:List T39) (x34 x35:Int) (x36:Bool) (h0_ h0__1 h0__2 h0__3 h0__4 h0__5 h0__6 h0__7 h0__8 h0__9:Int) (h0__10:List Int) (h1_ h1__1 h1__2 h1__3 h1__4 h1__5 h1__6 h1__7 h1__8 h1__9:Int) (h2_:List Int) : Option R56_r_l5 :=
 ifE ((0:Int) ≤ x35) (
  Option.bind (x33[(Int.toNat x35)]?) fun v2 =>
   f56_r_l5_j2 k x33 x34 x35 h0_ h0__1 h0__2 h0__3 h0__4 h0__5 h0__6 h0__7 h0__8 h0__9 h0__10 h1_ h1__1 h1__2 h1__3 h1__4 h1__5 (if v2.Hops > h1__6 then v2.Hops else h1__6) h1__7 h1__8 h1__9 h2_)
theorem f56_r_l5_j1_ok (k:Nat) (x33:List T39) (x34 x35:Int) (x36:Bool) (h0_ h0__1 h0__2 h0__3 h0__4 h0__5 h0__6 h0__7 h0__8 h0__9:Int) (h0__10:List Int) (h1_ h1__1 h1__2 h1__3 h1__4 h1__5 h1__6 h1__7 h1__8 h1__9:Int) (h2_:List Int) (r:R56_r_l5) (hF:f56_r_l5_j1 k x33 x34 x35 x36 h0_ h0__1 h0__2 h0__3 h0__4 h0__5 h0__6 h0__7 h0__8 h0__9 h0__10 h1_ h1__1 h1__2 h1__3 h1__4 h1__5 h1__6 h1__7 h1__8 h1__9 h2_ = some r) : EX 56 k (nav B56 [2,2,1,2,2,1,2,2,2,2,2]) (⟨47,[(2,.ptr 30000 0),(7,.ptr 30001 0),(33,.sl 11 (rowsOf encT39 x33)),(34,.p (.int .i64 x34)),(35,.p (.int .i64 x35)),(36,.p (.bool x36))],[(30000,.box 39 [.p (.int .i64 h0_),.p (.int .i64 h0__1),.p (.int .u32 h0__2),.p (.int .i64 h0__3),.p (.int .i64 h0__4),.p (.int .i64 h0__5),.p (.int .i64 h0__6),.p (.int .i64 h0__7),.p (.int .i64 h0__8),.p (.int .i64 h0__9),.sl 1 (rowsOf (encI .u8) h0__10)]),(30001,.box 39 [.p (.int .i64 h1_),.p (.int .i64 h1__1),.p (.int .u32 h1__2),.p (.int .i64 h1__3),.p (.int .i64 h1__4),.p (.int .i64 h1__5),.p (.int .i64 h1__6),.p (.int .i64 h1__7),.p (.int .i64 h1__8),.p (.int .i64 h1__9),.own 30002]),(30002,.row true 1 5 (rowsOf (encI .u8) h2_))]⟩ : St) = some r.st := by
 unfold f56_r_l5_j1 at hF
 obtain ⟨h1,hF⟩ := ifE_some.1 hF
 obtain ⟨v2,h3,hF⟩ := bs hF
 have hJ := f56_r_l5_j2_ok k x33 x34 x35 h0_ h0__1 h0__2 h0__3 h0__4 h0__5 h0__6 h0__7 h0__8 h0__9 h0__10 h1_ h1__1 h1__2 h1__3 h1__4 h1__5 (if v2.Hops > h1__6 then v2.Hops else h1__6) h1__7 h1__8 h1__9 h2_ _ hF
 simp (maxSteps:=999999) (disch:=first|exact D (by decide)|exact K (by kernel_rfl)) only [E,EE,↓reduceIte,simprocAttr,xk B56 [2,2,1,2,2,1,2,2,2,2,2] .sq rfl,xk B56 [1,2,2,1,2,2,1,2,2,2,2,2] (.bk 2) rfl,xk B56 [2,1,2,2,1,2,2,1,2,2,2,2,2] .sq rfl,rg B56 [1,2,1,2,2,1,2,2,1,2,2,2,2,2] 10 false rfl,hr_56_10,indexAddrV,t_24,t_39,encT39_eq,rg B56 [2,2,1,2,2,1,2,2,1,2,2,2,2,2] 11 false rfl,hr_56_11,fieldAddrV,t_3,minmaxV,minmaxGo,h1,h3]
 try simp only [NM,EE] at hJ
 exact hJ
noncomputable def f56_r_l5_b (k:Nat) (x33:List T39) (x34 x35 h0_ h0__1 h0__2 h0__3 h0__4 h0__5 h0__6 h0__7 h0__8 h0__9:Int) (h0__10:List Int) (h1_ h1__1 h1__2 h1__3 h1__4 h1__5 h1__6 h1__7 h1__8 h1__9:Int) (h2_:List Int) : Option R56_r_l5 :=
 cond ((decide (x35 < x34)))
  (f56_r_l5_j1 k x33 x34 x35 true h0_ h0__1 h0__2 h0__3 h0__4 h0__5 h0__6 h0__7 h0__8 h0__9 h0__10 h1_ h1__1 h1__2 h1__3 h1__4 h1__5 h1__6 h1__7 h1__8 h1__9 h2_)
  (some (R56_r_l5.o1 x33 x34 x35 false h0_ h0__1 h0__2 h0__3 h0__4 h0__5 h0__6 h0__7 h0__8 h0__9 h0__10 h1_ h1__1 h1__2 h1__3 h1__4 h1__5 h1__6 h1__7 h1__8 h1__9 h2_))
theorem f56_r_l5_b_ok (k:Nat) (x33:List T39) (x34 x35 h0_ h0__1 h0__2 h0__3 h0__4 h0__5 h0__6 h0__7 h0__8 h0__9:Int) (h0__10:List Int) (h1_ h1__1 h1__2 h1__3 h1__4 h1__5 h1__6 h1__7 h1__8 h1__9:Int) (h2_:List Int) (r:R56_r_l5) (hF:f56_r_l5_b k x33 x34 x35 h0_ h0__1 h0__2 h0__3 h0__4 h0__5 h0__6 h0__7 h0__8 h0__9 h0__10 h1_ h1__1 h1__2 h1__3 h1__4 h1__5 h1__6 h1__7 h1__8 h1__9 h2_ = some r) : EX 56 k (nav B56 [1,2,2,1,2,2,2,2,2]) (⟨47,[(2,.ptr 30000 0),(7,.ptr 30001 0),(33,.sl 11 (rowsOf encT39 x33)),(34,.p (.int .i64 x34)),(35,.p (.int .i64 x35))],[(30000,.box 39 [.p (.int .i64 h0_),.p (.int .i64 h0__1),.p (.int .u32 h0__2),.p (.int .i64 h0__3),.p (.int .i64 h0__4),.p (.int .i64 h0__5),.p (.int .i64 h0__6),.p (.int .i64 h0__7),.p (.int .i64 h0__8),.p (.int .i64 h0__9),.sl 1 (rowsOf (encI .u8) h0__10)]),(30001,.box 39 [.p (.int .i64 h1_),.p (.int .i64 h1__1),.p (.int .u32 h1__2),.p (.int .i64 h1__3),.p (.int .i64 h1__4),.p (.int .i64 h1__5),.p (.int .i64 h1__6),.p (.int .i64 h1__7),.p (.int .i64 h1__8),.p (.int .i64 h1__9),.own 30002]),(30002,.row true 1 5 (rowsOf (encI .u8) h2_))]⟩ : St) = some r.st := by
 unfold f56_r_l5_b at hF
 simp (maxSteps:=999999) (disch:=first|exact D (by decide)|exact K (by kernel_rfl)) only [E,EE,↓reduceIte,simprocAttr,xk B56 [1,2,2,1,2,2,2,2,2] .sq rfl,rg B56 [1,1,2,2,1,2,2,2,2,2] 9 false rfl,hr_56_9,xk B56 [2,1,2,2,1,2,2,2,2,2] .sq rfl,xk B56 [1,2,1,2,2,1,2,2,2,2,2] (.cd 36) rfl]
 rcases cond_some hF with ⟨h1,hF⟩ | ⟨h1,hF⟩
 ·have hJ := f56_r_l5_j1_ok k x33 x34 x35 true h0_ h0__1 h0__2 h0__3 h0__4 h0__5 h0__6 h0__7 h0__8 h0__9 h0__10 h1_ h1__1 h1__2 h1__3 h1__4 h1__5 h1__6 h1__7 h1__8 h1__9 h2_ _ hF
  simp (maxSteps:=999999) (disch:=first|exact D (by decide)|exact K (by kernel_rfl)) only [E,EE,↓reduceIte,simprocAttr,xk B56 [2,1,2,1,2,2,1,2,2,2,2,2] .sk rfl,h1]
  try simp only [NM,EE] at hJ
  exact hJ
 ·cases hF
  simp (maxSteps:=999999) (disch:=first|exact D (by decide)|exact K (by kernel_rfl)) only [E,EE,↓reduceIte,simprocAttr,xk B56 [3,1,2,1,2,2,1,2,2,2,2,2] (.ex 1) rfl,R56_r_l5.st,h1]
noncomputable def f56_r_l5 (k:Nat) : Nat → (List T39) → Int → Int → Int → Int → Int → Int → Int → Int → Int → Int → Int → Int → (List Int) → Int → Int → Int → Int → Int → Int → Int → Int → Int → Int → (List Int) → Option R56_r_l5
 | 0,_,_,_,_,_,_,_,_,_,_,_,_,_,_,_,_,_,_,_,_,_,_,_,_,_ => none
 | n + 1,x33,x34,x35,h0_,h0__1,h0__2,h0__3,h0__4,h0__5,h0__6,h0__7,h0__8,h0__9,h0__10,h1_,h1__1,h1__2,h1__3,h1__4,h1__5,h1__6,h1__7,h1__8,h1__9,h2_ => Option.bind (f56_r_l5_b k x33 x34 x35 h0_ h0__1 h0__2 h0__3 h0__4 h0__5 h0__6 h0__7 h0__8 h0__9 h0__10 h1_ h1__1 h1__2 h1__3 h1__4 h1__5 h1__6 h1__7 h1__8 h1__9 h2_) fun o =>
  match o with
  | .o0 y y_1 y_2 y_3 y_4 y_5 y_6 y_7 y_8 y_9 y_10 y_11 y_12 y_13 y_14 y_15 y_16 y_17 y_18 y_19 y_20 y_21 y_22 y_23 y_24 => f56_r_l5 k n y y_1 y_2 y_3 y_4 y_5 y_6 y_7 y_8 y_9 y_10 y_11 y_12 y_13 y_14 y_15 y_16 y_17 y_18 y_19 y_20 y_21 y_22 y_23 y_24
  | .o1 y y_1 y_2 y_3 y_4 y_5 y_6 y_7 y_8 y_9 y_10 y_11 y_12 y_13 y_14 y_15 y_16 y_17 y_18 y_19 y_20 y_21 y_22 y_23 y_24 y_25 => some (.o1 y y_1 y_2 y_3 y_4 y_5 y_6 y_7 y_8 y_9 y_10 y_11 y_12 y_13 y_14 y_15 y_16 y_17 y_18 y_19 y_20 y_21 y_22 y_23 y_24 y_25)
theorem f56_r_l5_ok (k n:Nat) : ∀ (x33:List T39) (x34 x35 h0_ h0__1 h0__2 h0__3 h0__4 h0__5 h0__6 h0__7 h0__8 h0__9:Int) (h0__10:List Int) (h1_ h1__1 h1__2 h1__3 h1__4 h1__5 h1__6 h1__7 h1__8 h1__9:Int) (h2_:List Int) (r:R56_r_l5) (hF:f56_r_l5 k n x33 x34 x35 h0_ h0__1 h0__2 h0__3 h0__4 h0__5 h0__6 h0__7 h0__8 h0__9 h0__10 h1_ h1__1 h1__2 h1__3 h1__4 h1__5 h1__6 h1__7 h1__8 h1__9 h2_ = some r) (σ:St) (hσ:headR (hints.head 56 9) (hints.canon 56 9) σ = some (⟨47,[(2,.ptr 30000 0),(7,.ptr 30001 0),(33,.sl 11 (rowsOf encT39 x33)),(34,.p (.int .i64 x34)),(35,.p (.int .i64 x35))],[(30000,.box 39 [.p (.int .i64 h0_),.p (.int .i64 h0__1),.p (.int .u32 h0__2),.p (.int .i64 h0__3),.p (.int .i64 h0__4),.p (.int .i64 h0__5),.p (.int .i64 h0__6),.p (.int .i64 h0__7),.p (.int .i64 h0__8),.p (.int .i64 h0__9),.sl 1 (rowsOf (encI .u8) h0__10)]),(30001,.box 39 [.p (.int .i64 h1_),.p (.int .i64 h1__1),.p (.int .u32 h1__2),.p (.int .i64 h1__3),.p (.int .i64 h1__4),.p (.int .i64 h1__5),.p (.int .i64 h1__6),.p (.int .i64 h1__7),.p (.int .i64 h1__8),.p (.int .i64 h1__9),.own 30002]),(30002,.row true 1 5 (rowsOf (encI .u8) h2_))]⟩ : St)),LP 56 k (nav B56 [1,2,2,1,2,2,2,2,2]) n σ = some r.st := by
 induction n with
 | zero => intro x33 x34 x35 h0_ h0__1 h0__2 h0__3 h0__4 h0__5 h0__6 h0__7 h0__8 h0__9 h0__10 h1_ h1__1 h1__2 h1__3 h1__4 h1__5 h1__6 h1__7 h1__8 h1__9 h2_ r hF; cases hF
 | succ n ih =>
  intro x33 x34 x35 h0_ h0__1 h0__2 h0__3 h0__4 h0__5 h0__6 h0__7 h0__8 h0__9 h0__10 h1_ h1__1 h1__2 h1__3 h1__4 h1__5 h1__6 h1__7 h1__8 h1__9 h2_ r hF σ hσ
  rw [f56_r_l5] at hF
  obtain ⟨o,h,hF⟩ := Option.bind_eq_some_iff.1 hF
  have hB := f56_r_l5_b_ok k x33 x34 x35 h0_ h0__1 h0__2 h0__3 h0__4 h0__5 h0__6 h0__7 h0__8 h0__9 h0__10 h1_ h1__1 h1__2 h1__3 h1__4 h1__5 h1__6 h1__7 h1__8 h1__9 h2_ o h
  unfold LP at ih ⊢
  unfold EX at hB
  rw [loopK_succ,show firstReg (nav B56 [1,2,2,1,2,2,2,2,2]) = 9 from rfl,hσ,headK_some,hB]
  cases o with
  | o0 y y_1 y_2 y_3 y_4 y_5 y_6 y_7 y_8 y_9 y_10 y_11 y_12 y_13 y_14 y_15 y_16 y_17 y_18 y_19 y_20 y_21 y_22 y_23 y_24 =>
   refine ih y y_1 y_2 y_3 y_4 y_5 y_6 y_7 y_8 y_9 y_10 y_11 y_12 y_13 y_14 y_15 y_16 y_17 y_18 y_19 y_20 y_21 y_22 y_23 y_24 r hF _ ?_
   simp (maxSteps:=999999) (disch:=first|exact D (by decide)|exact K (by kernel_rfl)) only [E,EE,↓reduceIte,simprocAttr,hh_56_9,hc_56_9]
  | o1 y y_1 y_2 y_3 y_4 y_5 y_6 y_7 y_8 y_9 y_10 y_11 y_12 y_13 y_14 y_15 y_16 y_17 y_18 y_19 y_20 y_21 y_22 y_23 y_24 y_25 => cases hF; rfl
noncomputable def f56_r_j6 (k:Nat) (x33:List T39) (x34 x35:Int) (x36:Bool) (h0_ h0__1 h0__2 h0__3 h0__4 h0__5 h0__6 h0__7 h0__8 h0__9:Int) (h0__10:List Int) (h1_ h1__1 h1__2 h1__3 h1__4 h1__5 h1__6 h1__7 h1__8 h1__9:Int) (h2_:List Int) : Option R56_r :=
 some (R56_r.o1 h1_ h1__1 h1__2 h1__3 h1__4 h1__5 h1__6 h1__7 h1__8 h1__9 0 h2_)
theorem f56_r_j6_ok (k:Nat) (x33:List T39) (x34 x35:Int) (x36:Bool) (h0_ h0__1 h0__2 h0__3 h0__4 h0__5 h0__6 h0__7 h0__8 h0__9:Int) (h0__10:List Int) (h1_ h1__1 h1__2 h1__3 h1__4 h1__5 h1__6 h1__7 h1__8 h1__9:Int) (h2_:List Int) (r:R56_r) (hF:f56_r_j6 k x33 x34 x35 x36 h0_ h0__1 h0__2 h0__3 h0__4 h0__5 h0__6 h0__7 h0__8 h0__9 h0__10 h1_ h1__1 h1__2 h1__3 h1__4 h1__5 h1__6 h1__7 h1__8 h1__9 h2_ = some r) : finK Try.prog Try.f56 0 (EX 56 k (nav B56 [2,2,2,2,2,2]) (⟨47,[(2,.ptr 30000 0),(7,.ptr 30001 0),(33,.sl 11 (rowsOf encT39 x33)),(34,.p (.int .i64 x34)),(35,.p (.int .i64 x35)),(36,.p (.bool x36))],[(30000,.box 39 [.p (.int .i64 h0_),.p (.int .i64 h0__1),.p (.int .u32 h0__2),.p (.int .i64 h0__3),.p (.int .i64 h0__4),.p (.int .i64 h0__5),.p (.int .i64 h0__6),.p (.int .i64 h0__7),.p (.int .i64 h0__8),.p (.int .i64 h0__9),.sl 1 (rowsOf (encI .u8) h0__10)]),(30001,.box 39 [.p (.int .i64 h1_),.p (.int .i64 h1__1),.p (.int .u32 h1__2),.p (.int .i64 h1__3),.p (.int .i64 h1__4),.p (.int .i64 h1__5),.p (.int .i64 h1__6),.p (.int .i64 h1__7),.p (.int .i64 h1__8),.p (.int .i64 h1__9),.own 30002]),(30002,.row true 1 5 (rowsOf (encI .u8) h2_))]⟩ : St)) = some r.st := by
 unfold f56_r_j6 at hF
 cases hF
 simp (maxSteps:=999999) (disch:=first|exact D (by decide)|exact K (by kernel_rfl)) only [E,EE,↓reduceIte,simprocAttr,xk B56 [2,2,2,2,2,2] .sq rfl,rg B56 [1,2,2,2,2,2,2] 13 false rfl,hr_56_13,t_39,xk B56 [2,2,2,2,2,2,2] .rt rfl,finK_norm,finK_ret,fin56,R56_r.st]
noncomputable def f56_r_j4 (k:Nat) (x0:List T39) (x21:Bool) (m2 m2_1 m2_2 m2_3 m2_4 m2_5 m2_6 m2_7 m2_8 m2_9:Int) (m2_10 m12_1_:List Int) : Option R56_r :=
 Option.bind (x0[0]?) fun v1 =>
  Option.bind (f56_r_l5 k k x0 ((List.length x0) : Int) 0 m2 m2_1 m2_2 m2_3 m2_4 m2_5 m2_6 m2_7 m2_8 m2_9 m2_10 v1.Source v1.Dest v1.Seq v1.Created v1.Lifetime v1.HopLimit v1.Hops v1.Priority 0 v1.Total m12_1_) fun o3 =>
   match o3 with
   | .o0 _ _ _ _ _ _ _ _ _ _ _ _ _ _ _ _ _ _ _ _ _ _ _ _ _ =>
    none
   | .o1 v6 v7 v8 v9 v10 v11 v12 v13 v14 v15 v16 v17 v18 v19 v20 v21 v22 v23 v24 v25 v26 v27 v28 v29 v30 v31 =>
    f56_r_j6 k v6 v7 v8 v9 v10 v11 v12 v13 v14 v15 v16 v17 v18 v19 v20 v21 v22 v23 v24 v25 v26 v27 v28 v29 v30 v31
theorem f56_r_j4_ok (k:Nat) (x0:List T39) (x21:Bool) (m2 m2_1 m2_2 m2_3 m2_4 m2_5 m2_6 m2_7 m2_8 m2_9:Int) (m2_10 m12_1_:List Int) (r:R56_r) (hF:f56_r_j4 k x0 x21 m2 m2_1 m2_2 m2_3 m2_4 m2_5 m2_6 m2_7 m2_8 m2_9 m2_10 m12_1_ = some r) : finK Try.prog Try.f56 0 (EX 56 k (nav B56 [2,2,2]) (⟨47,[(0,.sl 11 (rowsOf encT39 x0)),(2,.ptr 2 0),(5,.own 10012),(21,.p (.bool x21))],[(2,.box 39 [.p (.int .i64 m2),.p (.int .i64 m2_1),.p (.int .u32 m2_2),.p (.int .i64 m2_3),.p (.int .i64 m2_4),.p (.int .i64 m2_5),.p (.int .i64 m2_6),.p (.int .i64 m2_7),.p (.int .i64 m2_8),.p (.int .i64 m2_9),.sl 1 (rowsOf (encI .u8) m2_10)]),(10012,.row true 1 5 (rowsOf (encI .u8) m12_1_))]⟩ : St)) = some r.st := by
 unfold f56_r_j4 at hF
 obtain ⟨v1,h2,hF⟩ := bs hF
 obtain ⟨o3,h4,hF⟩ := bs hF
 have hc5 := f56_r_l5_ok k k x0 ((List.length x0) : Int) 0 m2 m2_1 m2_2 m2_3 m2_4 m2_5 m2_6 m2_7 m2_8 m2_9 m2_10 v1.Source v1.Dest v1.Seq v1.Created v1.Lifetime v1.HopLimit v1.Hops v1.Priority 0 v1.Total m12_1_ _ h4
 simp (maxSteps:=999999) (disch:=first|exact D (by decide)|exact K (by kernel_rfl)) only [E,EE,↓reduceIte,simprocAttr,xk B56 [2,2,2] .sq rfl,rg B56 [1,2,2,2] 6 false rfl,hr_56_6,indexAddrV,t_24,t_39,encT39_eq,xk B56 [2,2,2,2] .sq rfl,rg B56 [1,2,2,2,2] 7 false rfl,hr_56_7,fieldAddrV,t_3,t_29,xk B56 [2,2,2,2,2] .sq rfl,xk B56 [1,2,2,2,2,2] .sq rfl,rg B56 [1,1,2,2,2,2,2] 8 false rfl,hr_56_8,xk B56 [2,1,2,2,2,2,2] (.bk 1) rfl,xk B56 [2,2,1,2,2,2,2,2] .lp rfl,hh_56_9,hc_56_9,h2]
 (try simp only [NM,EE] at hc5)
 rw [hc5 _ (by simp (maxSteps:=999999) (disch:=first|exact D (by decide)|exact K (by kernel_rfl)) only [E,EE,↓reduceIte,simprocAttr,hh_56_9,hc_56_9,h2])]
 clear hc5
 cases o3 with
 | o0 _ _ _ _ _ _ _ _ _ _ _ _ _ _ _ _ _ _ _ _ _ _ _ _ _ =>
  (try dsimp only at hF)
  cases hF
 | o1 v6 v7 v8 v9 v10 v11 v12 v13 v14 v15 v16 v17 v18 v19 v20 v21 v22 v23 v24 v25 v26 v27 v28 v29 v30 v31 =>
  (try dsimp only at hF)
  have hJ := f56_r_j6_ok k v6 v7 v8 v9 v10 v11 v12 v13 v14 v15 v16 v17 v18 v19 v20 v21 v22 v23 v24 v25 v26 v27 v28 v29 v30 v31 _ hF
  simp (maxSteps:=999999) (disch:=first|exact D (by decide)|exact K (by kernel_rfl)) only [E,EE,↓reduceIte,simprocAttr,R56_r_l5.st,h2]
  try simp only [NM,EE] at hJ
  exact hJ
noncomputable def f56_r_e (k:Nat) (a0:List T39) : Option R56_r :=
 Option.bind (f58_r k a0) fun o1 =>
  match o1 with
  | .o0 v4 v5 v6 =>
   cond ((v6 != 0))
    (some (R56_r.o0 0 0 0 0 0 0 0 0 0 0 [] v6))
    (
     Option.bind (f59_r k v4) fun o8 =>
      match o8 with
      | .o0 v11 =>
       cond ((decide (((List.length v11) : Int) > 0)))
        (some (R56_r.o0 0 0 0 0 0 0 0 0 0 0 [] 4))
        (f56_r_j1 k a0 v5 false 0 0 0 0 0 0 0 0 0 0 []))
  | .o1 v13 v14 v15 =>
   cond ((v13 != 0))
    (some (R56_r.o0 0 0 0 0 0 0 0 0 0 0 [] v13))
    (
     Option.bind (f59_r k v14) fun o17 =>
      match o17 with
      | .o0 v20 =>
       cond ((decide (((List.length v20) : Int) > 0)))
        (some (R56_r.o0 0 0 0 0 0 0 0 0 0 0 [] 4))
        (f56_r_j4 k a0 false 0 0 0 0 0 0 0 0 0 0 [] v15))
theorem f56_r_e_ok (k:Nat) (a0:List T39) (r:R56_r) (hF:f56_r_e k a0 = some r) : finK Try.prog Try.f56 0 (EX 56 k (nav B56 []) (⟨47,[(0,.sl 11 (rowsOf encT39 a0))],[]⟩ : St)) = some r.st := by
 unfold f56_r_e at hF
 simp (maxSteps:=999999) (disch:=first|exact D (by decide)|exact K (by kernel_rfl)) only [E,EE,↓reduceIte,simprocAttr,xk B56 [] .sq rfl,rg B56 [1] 0 false rfl,hr_56_0,t_39,xk B56 [2] .sq rfl,rg B56 [1,2] 1 false rfl,hr_56_1,callStep,CL,gv,List.contains]
 obtain ⟨o1,h2,hF⟩ := bs hF
 have hc3 := f58_r_ok k a0 _ h2
 cases o1 with
 | o0 v4 v5 v6 =>
  (try dsimp only at hF)
  (try simp only [NM,EE,R58_r.st] at hc3)
  simp (maxSteps:=999999) (disch:=first|exact D (by decide)|exact K (by kernel_rfl)) only [E,EE,↓reduceIte,simprocAttr,xk B56 [2,2] .sq rfl,xk B56 [1,2,2] (.bk 0) rfl,xk B56 [2,1,2,2] .sq rfl,rg B56 [1,2,1,2,2] 2 false rfl,hr_56_2,xk B56 [2,2,1,2,2] (.cd 16) rfl,hc3]
  rcases cond_some hF with ⟨h7,hF⟩ | ⟨h7,hF⟩
  ·cases hF
   simp (maxSteps:=999999) (disch:=first|exact D (by decide)|exact K (by kernel_rfl)) only [E,EE,↓reduceIte,simprocAttr,xk B56 [2,2,2,1,2,2] .sq rfl,rg B56 [1,2,2,2,1,2,2] 3 false rfl,hr_56_3,bl_39,t_39,xk B56 [2,2,2,2,1,2,2] .rt rfl,finK_norm,finK_ret,fin56,R56_r.st,hc3,h7]
  ·obtain ⟨o8,h9,hF⟩ := bs hF
   have hc10 := f59_r_ok k v4 _ h9
   cases o8 with
   | o0 v11 =>
    (try dsimp only at hF)
    (try simp only [NM,EE,R59_r.st] at hc10)
    simp (maxSteps:=999999) (disch:=first|exact D (by decide)|exact K (by kernel_rfl)) only [E,EE,↓reduceIte,simprocAttr,xk B56 [3,2,2,1,2,2] .sq rfl,rg B56 [1,3,2,2,1,2,2] 4 false rfl,hr_56_4,callStep,CL,gv,List.contains,t_74,xk B56 [2,3,2,2,1,2,2] (.cd 21) rfl,hc3,h7,hc10]
    rcases cond_some hF with ⟨h12,hF⟩ | ⟨h12,hF⟩
    ·cases hF
     simp (maxSteps:=999999) (disch:=first|exact D (by decide)|exact K (by kernel_rfl)) only [E,EE,↓reduceIte,simprocAttr,xk B56 [2,2,3,2,2,1,2,2] .sq rfl,rg B56 [1,2,2,3,2,2,1,2,2] 5 false rfl,hr_56_5,bl_39,t_39,xk B56 [2,2,2,3,2,2,1,2,2] .rt rfl,finK_norm,finK_ret,fin56,R56_r.st,hc3,h7,hc10,h12]
    ·have hJ := f56_r_j1_ok k a0 v5 false 0 0 0 0 0 0 0 0 0 0 [] _ hF
     simp (maxSteps:=999999) (disch:=first|exact D (by decide)|exact K (by kernel_rfl)) only [E,EE,↓reduceIte,simprocAttr,xk B56 [3,2,3,2,2,1,2,2] .sk rfl,hc3,h7,hc10,h12]
     try simp only [NM,EE] at hJ
     exact hJ
 | o1 v13 v14 v15 =>
  (try dsimp only at hF)
  (try simp only [NM,EE,R58_r.st] at hc3)
  simp (maxSteps:=999999) (disch:=first|exact D (by decide)|exact K (by kernel_rfl)) only [E,EE,↓reduceIte,simprocAttr,xk B56 [2,2] .sq rfl,xk B56 [1,2,2] (.bk 0) rfl,xk B56 [2,1,2,2] .sq rfl,rg B56 [1,2,1,2,2] 2 false rfl,hr_56_2,xk B56 [2,2,1,2,2] (.cd 16) rfl,hc3]
  rcases cond_some hF with ⟨h16,hF⟩ | ⟨h16,hF⟩
  ·cases hF
   simp (maxSteps:=999999) (disch:=first|exact D (by decide)|exact K (by kernel_rfl)) only [E,EE,↓reduceIte,simprocAttr,xk B56 [2,2,2,1,2,2] .sq rfl,rg B56 [1,2,2,2,1,2,2] 3 false rfl,hr_56_3,bl_39,t_39,xk B56 [2,2,2,2,1,2,2] .rt rfl,finK_norm,finK_ret,fin56,R56_r.st,hc3,h16]
  ·obtain ⟨o17,h18,hF⟩ := bs hF
   have hc19 := f59_r_ok k v14 _ h18
   cases o17 with
   | o0 v20 =>
    (try dsimp only at hF)
    (try simp only [NM,EE,R59_r.st] at hc19)
    simp (maxSteps:=999999) (disch:=first|exact D (by decide)|exact K (by kernel_rfl)) only [E,EE,↓reduceIte,simprocAttr,xk B56 [3,2,2,1,2,2] .sq rfl,rg B56 [1,3,2,2,1,2,2] 4 false rfl,hr_56_4,callStep,CL,gv,List.contains,t_74,xk B56 [2,3,2,2,1,2,2] (.cd 21) rfl,hc3,h16,hc19]
    rcases cond_some hF with ⟨h21,hF⟩ | ⟨h21,hF⟩
    ·cases hF
     simp (maxSteps:=999999) (disch:=first|exact D (by decide)|exact K (by kernel_rfl)) only [E,EE,↓reduceIte,simprocAttr,xk B56 [2,2,3,2,2,1,2,2] .sq rfl,rg B56 [1,2,2,3,2,2,1,2,2] 5 false rfl,hr_56_5,bl_39,t_39,xk B56 [2,2,2,3,2,2,1,2,2] .rt rfl,finK_norm,finK_ret,fin56,R56_r.st,hc3,h16,hc19,h21]
    ·have hJ := f56_r_j4_ok k a0 false 0 0 0 0 0 0 0 0 0 0 [] v15 _ hF
     simp (maxSteps:=999999) (disch:=first|exact D (by decide)|exact K (by kernel_rfl)) only [E,EE,↓reduceIte,simprocAttr,xk B56 [3,2,3,2,2,1,2,2] .sk rfl,hc3,h16,hc19,h21]
     try simp only [NM,EE] at hJ
     exact hJ
noncomputable def f56_r (k:Nat) (a0:List T39) : Option R56_r := match k with | 0 => none | k + 1 => f56_r_e k a0
theorem f56_r_ok (k:Nat) (a0:List T39) (r:R56_r) (hF:f56_r k a0 = some r) : CV k 56 [.sl 11 (rowsOf encT39 a0)] [] = some r.st := by
 cases k with
 | zero => cases hF
 | succ k =>
  unfold CV
  rw [ev_call (F := Try.f56) (c := (nav B56 [])) rfl Try.func56 rfl rfl rfl rfl]
  exact f56_r_e_ok k a0 r hF
-- f57_ai10rzp_biiiiiiiiiir: f57 heliograph/agent.judge$3
inductive R57_ai10rzp_biiiiiiiiiir where
 | o0 (y:Bool) (y_1 y_2 y_3 y_4 y_5 y_6 y_7 y_8 y_9 y_10:Int) (y_11:List Int)
noncomputable def R57_ai10rzp_biiiiiiiiiir.st : R57_ai10rzp_biiiiiiiiiir → V × List O × List O
 | .o0 y y_1 y_2 y_3 y_4 y_5 y_6 y_7 y_8 y_9 y_10 y_11 => (.p (.bool y),[.box 39 [.p (.int .i64 y_1),.p (.int .i64 y_2),.p (.int .u32 y_3),.p (.int .i64 y_4),.p (.int .i64 y_5),.p (.int .i64 y_6),.p (.int .i64 y_7),.p (.int .i64 y_8),.p (.int .i64 y_9),.p (.int .i64 y_10),.sl 1 (rowsOf (encI .u8) y_11)]],[])
noncomputable def f57_ai10rzp_biiiiiiiiiir_e (k:Nat) (a0 a0_1 a0_2 a0_3 a0_4 a0_5 a0_6 a0_7 a0_8 a0_9:Int) (a0_10:List Int) (e0 e0_1 e0_2 e0_3 e0_4 e0_5 e0_6 e0_7 e0_8 e0_9:Int) (e0_10:List Int) : Option R57_ai10rzp_biiiiiiiiiir :=
 Option.bind (f37_ai10rz k a0 a0_1 a0_2 a0_3 a0_4 a0_5 a0_6 a0_7 a0_8 a0_9 a0_10) fun o1 =>
  match o1 with
  | .o0 v4 v5 =>
   Option.bind (f37_ai10rz k e0 e0_1 e0_2 e0_3 e0_4 e0_5 e0_6 e0_7 e0_8 e0_9 e0_10) fun o6 =>
    match o6 with
    | .o0 v9 v10 =>
     some (R57_ai10rzp_biiiiiiiiiir.o0 (((v4 == v9) && (v5 == v10))) e0 e0_1 e0_2 e0_3 e0_4 e0_5 e0_6 e0_7 e0_8 e0_9 e0_10)
theorem f57_ai10rzp_biiiiiiiiiir_e_ok (k:Nat) (a0 a0_1 a0_2 a0_3 a0_4 a0_5 a0_6 a0_7 a0_8 a0_9:Int) (a0_10:List Int) (e0 e0_1 e0_2 e0_3 e0_4 e0_5 e0_6 e0_7 e0_8 e0_9:Int) (e0_10:List Int) (r:R57_ai10rzp_biiiiiiiiiir) (hF:f57_ai10rzp_biiiiiiiiiir_e k a0 a0_1 a0_2 a0_3 a0_4 a0_5 a0_6 a0_7 a0_8 a0_9 a0_10 e0 e0_1 e0_2 e0_3 e0_4 e0_5 e0_6 e0_7 e0_8 e0_9 e0_10 = some r) : finK Try.prog Try.f57 1 (EX 57 k (nav B57 []) (⟨9,[(0,.agg [.p (.int .i64 a0),.p (.int .i64 a0_1),.p (.int .u32 a0_2),.p (.int .i64 a0_3),.p (.int .i64 a0_4),.p (.int .i64 a0_5),.p (.int .i64 a0_6),.p (.int .i64 a0_7),.p (.int .i64 a0_8),.p (.int .i64 a0_9),.sl 1 (rowsOf (encI .u8) a0_10)]),(1,.ptr 1000000 0)],[(1000000,.box 39 [.p (.int .i64 e0),.p (.int .i64 e0_1),.p (.int .u32 e0_2),.p (.int .i64 e0_3),.p (.int .i64 e0_4),.p (.int .i64 e0_5),.p (.int .i64 e0_6),.p (.int .i64 e0_7),.p (.int .i64 e0_8),.p (.int .i64 e0_9),.sl 1 (rowsOf (encI .u8) e0_10)])]⟩ : St)) = some r.st := by
 unfold f57_ai10rzp_biiiiiiiiiir_e at hF
 obtain ⟨o1,h2,hF⟩ := bs hF
 have hc3 := f37_ai10rz_ok k a0 a0_1 a0_2 a0_3 a0_4 a0_5 a0_6 a0_7 a0_8 a0_9 a0_10 _ h2
 cases o1 with
 | o0 v4 v5 =>
  (try dsimp only at hF)
  (try simp only [NM,EE,R37_ai10rz.st] at hc3)
  obtain ⟨o6,h7,hF⟩ := bs hF
  have hc8 := f37_ai10rz_ok k e0 e0_1 e0_2 e0_3 e0_4 e0_5 e0_6 e0_7 e0_8 e0_9 e0_10 _ h7
  cases o6 with
  | o0 v9 v10 =>
   (try dsimp only at hF)
   (try simp only [NM,EE,R37_ai10rz.st] at hc8)
   cases hF
   simp (maxSteps:=999999) (disch:=first|exact D (by decide)|exact K (by kernel_rfl)) only [E,EE,↓reduceIte,simprocAttr,xk B57 [] .sq rfl,rg B57 [1] 0 false rfl,hr_57_0,xk B57 [2] .sq rfl,rg B57 [1,2] 1 true rfl,hr_57_1,t_39,callStep,CL,gv,List.contains,t_79,ag_79,t_3,t_22,xk B57 [2,2] .rt rfl,finK_norm,finK_ret,fin57,R57_ai10rzp_biiiiiiiiiir.st,hc3,hc8]
noncomputable def f57_ai10rzp_biiiiiiiiiir (k:Nat) (a0 a0_1 a0_2 a0_3 a0_4 a0_5 a0_6 a0_7 a0_8 a0_9:Int) (a0_10:List Int) (e0 e0_1 e0_2 e0_3 e0_4 e0_5 e0_6 e0_7 e0_8 e0_9:Int) (e0_10:List Int) : Option R57_ai10rzp_biiiiiiiiiir := match k with | 0 => none | k + 1 => f57_ai10rzp_biiiiiiiiiir_e k a0 a0_1 a0_2 a0_3 a0_4 a0_5 a0_6 a0_7 a0_8 a0_9 a0_10 e0 e0_1 e0_2 e0_3 e0_4 e0_5 e0_6 e0_7 e0_8 e0_9 e0_10
theorem f57_ai10rzp_biiiiiiiiiir_ok (k:Nat) (a0 a0_1 a0_2 a0_3 a0_4 a0_5 a0_6 a0_7 a0_8 a0_9:Int) (a0_10:List Int) (e0 e0_1 e0_2 e0_3 e0_4 e0_5 e0_6 e0_7 e0_8 e0_9:Int) (e0_10:List Int) (r:R57_ai10rzp_biiiiiiiiiir) (hF:f57_ai10rzp_biiiiiiiiiir k a0 a0_1 a0_2 a0_3 a0_4 a0_5 a0_6 a0_7 a0_8 a0_9 a0_10 e0 e0_1 e0_2 e0_3 e0_4 e0_5 e0_6 e0_7 e0_8 e0_9 e0_10 = some r) : CV k 57 [.agg [.p (.int .i64 a0),.p (.int .i64 a0_1),.p (.int .u32 a0_2),.p (.int .i64 a0_3),.p (.int .i64 a0_4),.p (.int .i64 a0_5),.p (.int .i64 a0_6),.p (.int .i64 a0_7),.p (.int .i64 a0_8),.p (.int .i64 a0_9),.sl 1 (rowsOf (encI .u8) a0_10)],.ptr 1000000 0] [.box 39 [.p (.int .i64 e0),.p (.int .i64 e0_1),.p (.int .u32 e0_2),.p (.int .i64 e0_3),.p (.int .i64 e0_4),.p (.int .i64 e0_5),.p (.int .i64 e0_6),.p (.int .i64 e0_7),.p (.int .i64 e0_8),.p (.int .i64 e0_9),.sl 1 (rowsOf (encI .u8) e0_10)]] = some r.st := by
 cases k with
 | zero => cases hF
 | succ k =>
  unfold CV
  rw [ev_call (F := Try.f57) (c := (nav B57 [])) rfl Try.func57 rfl rfl rfl rfl]
  exact f57_ai10rzp_biiiiiiiiiir_e_ok k a0 a0_1 a0_2 a0_3 a0_4 a0_5 a0_6 a0_7 a0_8 a0_9 a0_10 e0 e0_1 e0_2 e0_3 e0_4 e0_5 e0_6 e0_7 e0_8 e0_9 e0_10 r hF
end Go.Proofs.YticggdfaehneeaaV