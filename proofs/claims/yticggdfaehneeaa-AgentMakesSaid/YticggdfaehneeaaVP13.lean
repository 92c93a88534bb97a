/- What the program's functions answer: plain functions,and that the interpreter answers what they do. Written by a program of this session,out of the translation. -/
import Derived.Test.YticggdfaehneeaaVP12
namespace Go.Proofs.YticggdfaehneeaaV
open Go
set_option linter.unusedVariables false
set_option linter.unusedSimpArgs false
set_option maxRecDepth 8000
set_option maxHeartbeats 4000000
-- f3_aiirrzai5zr: f3 heliograph/heliographlaw19.AgentMakes
inductive R3_aiirrzai5zr where
 | o0 (y : Bool)
noncomputable def R3_aiirrzai5zr.st : R3_aiirrzai5zr → V × List O × List O
 | .o0 y => (.p (.bool y),[],[])
inductive R3_aiirrzai5zr_l6 where
 | o0 (y : Bool)
 | o1 (y : List Int) (y_1 : List T39) (y_2 y_3 : Int) (y_4 : List T39) (y_5 y_6 : Int) (y_7 : Bool) (y_8 y_9 : Int) (y_10 : List T65) (y_11 : List T39) (y_12 y_13 y_14 y_15 y_16 y_17 y_18 : Int) (y_19 : List T65) (y_20 : List T39) (y_21 y_22 y_23 y_24 y_25 y_26 y_27 y_28 y_29 y_30 : Int) (y_31 : List Int)
 | o2 (y : List Int) (y_1 : List T39) (y_2 y_3 : Int) (y_4 : List T39) (y_5 y_6 y_7 y_8 : Int) (y_9 : List T65) (y_10 : List T39) (y_11 y_12 y_13 y_14 y_15 y_16 y_17 : Int) (y_18 : List T65) (y_19 : List T39) (y_20 y_21 y_22 y_23 y_24 y_25 y_26 y_27 y_28 y_29 : Int) (y_30 : List Int)
 | o3 (y : List Int) (y_1 : List T39) (y_2 y_3 : Int) (y_4 : List T39) (y_5 y_6 : Int) (y_7 : Bool) (y_8 y_9 : Int) (y_10 : List T65) (y_11 : List T39) (y_12 y_13 y_14 y_15 y_16 y_17 y_18 : Int) (y_19 : List T65) (y_20 : List T39) (y_21 y_22 y_23 y_24 y_25 y_26 y_27 y_28 y_29 y_30 : Int) (y_31 : List Int)
noncomputable def R3_aiirrzai5zr_l6.st : R3_aiirrzai5zr_l6 → Out × St
 | .o0 y => (.ret,(⟨182,[(6,.p (.bool y))],[]⟩ : St))
 | .o1 y y_1 y_2 y_3 y_4 y_5 y_6 y_7 y_8 y_9 y_10 y_11 y_12 y_13 y_14 y_15 y_16 y_17 y_18 y_19 y_20 y_21 y_22 y_23 y_24 y_25 y_26 y_27 y_28 y_29 y_30 y_31 => (.exit 0,(⟨182,[(2,.sl 1 (rowsOf (encI .u8) y)),(3,.ptr 30000 0),(4,.ptr 30001 0),(8,.ptr 30002 0),(9,.sl 11 (rowsOf encT39 y_1)),(10,.p (.int .i64 y_2)),(11,.ptr 30004 0),(12,.p (.int .i64 y_3)),(116,.sl 11 (rowsOf encT39 y_4)),(117,.p (.int .i64 y_5)),(118,.p (.int .i64 y_6)),(148,.p (.bool y_7))],[(30000,.box 26 [.p (.int .i64 y_8),.p (.int .u32 y_9),.sl 4 (rowsOf encT65 y_10),.sl 11 (rowsOf encT39 y_11)]),(30001,.box 28 [.p (.int .i64 y_12),.p (.int .i64 y_13),.p (.int .i64 y_14),.p (.int .i64 y_15),.p (.int .i64 y_16)]),(30002,.box 26 [.p (.int .i64 y_17),.p (.int .u32 y_18),.sl 4 (rowsOf encT65 y_19),.own 30003]),(30003,.row true 11 39 (rowsOf encT39 y_20)),(30004,.box 39 [.p (.int .i64 y_21),.p (.int .i64 y_22),.p (.int .u32 y_23),.p (.int .i64 y_24),.p (.int .i64 y_25),.p (.int .i64 y_26),.p (.int .i64 y_27),.p (.int .i64 y_28),.p (.int .i64 y_29),.p (.int .i64 y_30),.sl 1 (rowsOf (encI .u8) y_31)])]⟩ : St))
 | .o2 y y_1 y_2 y_3 y_4 y_5 y_6 y_7 y_8 y_9 y_10 y_11 y_12 y_13 y_14 y_15 y_16 y_17 y_18 y_19 y_20 y_21 y_22 y_23 y_24 y_25 y_26 y_27 y_28 y_29 y_30 => (.norm,(⟨182,[(2,.sl 1 (rowsOf (encI .u8) y)),(3,.ptr 30000 0),(4,.ptr 30001 0),(8,.ptr 30002 0),(9,.sl 11 (rowsOf encT39 y_1)),(10,.p (.int .i64 y_2)),(11,.ptr 30004 0),(12,.p (.int .i64 y_3)),(116,.sl 11 (rowsOf encT39 y_4)),(117,.p (.int .i64 y_5)),(118,.p (.int .i64 y_6))],[(30000,.box 26 [.p (.int .i64 y_7),.p (.int .u32 y_8),.sl 4 (rowsOf encT65 y_9),.sl 11 (rowsOf encT39 y_10)]),(30001,.box 28 [.p (.int .i64 y_11),.p (.int .i64 y_12),.p (.int .i64 y_13),.p (.int .i64 y_14),.p (.int .i64 y_15)]),(30002,.box 26 [.p (.int .i64 y_16),.p (.int .u32 y_17),.sl 4 (rowsOf encT65 y_18),.own 30003]),(30003,.row true 11 39 (rowsOf encT39 y_19)),(30004,.box 39 [.p (.int .i64 y_20),.p (.int .i64 y_21),.p (.int .u32 y_22),.p (.int .i64 y_23),.p (.int .i64 y_24),.p (.int .i64 y_25),.p (.int .i64 y_26),.p (.int .i64 y_27),.p (.int .i64 y_28),.p (.int .i64 y_29),.sl 1 (rowsOf (encI .u8) y_30)])]⟩ : St))
 | .o3 y y_1 y_2 y_3 y_4 y_5 y_6 y_7 y_8 y_9 y_10 y_11 y_12 y_13 y_14 y_15 y_16 y_17 y_18 y_19 y_20 y_21 y_22 y_23 y_24 y_25 y_26 y_27 y_28 y_29 y_30 y_31 => (.exit 0,(⟨182,[(2,.sl 1 (rowsOf (encI .u8) y)),(3,.ptr 30000 0),(4,.ptr 30001 0),(8,.ptr 30002 0),(9,.sl 11 (rowsOf encT39 y_1)),(10,.p (.int .i64 y_2)),(11,.ptr 30004 0),(12,.p (.int .i64 y_3)),(116,.sl 11 (rowsOf encT39 y_4)),(117,.p (.int .i64 y_5)),(118,.p (.int .i64 y_6)),(119,.p (.bool y_7))],[(30000,.box 26 [.p (.int .i64 y_8),.p (.int .u32 y_9),.sl 4 (rowsOf encT65 y_10),.sl 11 (rowsOf encT39 y_11)]),(30001,.box 28 [.p (.int .i64 y_12),.p (.int .i64 y_13),.p (.int .i64 y_14),.p (.int .i64 y_15),.p (.int .i64 y_16)]),(30002,.box 26 [.p (.int .i64 y_17),.p (.int .u32 y_18),.sl 4 (rowsOf encT65 y_19),.own 30003]),(30003,.row true 11 39 (rowsOf encT39 y_20)),(30004,.box 39 [.p (.int .i64 y_21),.p (.int .i64 y_22),.p (.int .u32 y_23),.p (.int .i64 y_24),.p (.int .i64 y_25),.p (.int .i64 y_26),.p (.int .i64 y_27),.p (.int .i64 y_28),.p (.int .i64 y_29),.p (.int .i64 y_30),.sl 1 (rowsOf (encI .u8) y_31)])]⟩ : St))
noncomputable def f3_aiirrzai5zr_l6_j3 (k : Nat) (x2 : List Int) (x9 : List T39) (x10 x12 : Int) (x116 : List T39) (x117 x118 : Int) (x148 : Bool) (h0_ h0__1 : Int) (h0__2 : List T65) (h0__3 : List T39) (h1_ h1__1 h1__2 h1__3 h1__4 h2_ h2__1 : Int) (h2__2 : List T65) (h3_ : List T39) (h4_ h4__1 h4__2 h4__3 h4__4 h4__5 h4__6 h4__7 h4__8 h4__9 : Int) (h4__10 : List Int) : Option R3_aiirrzai5zr_l6 :=
 some (R3_aiirrzai5zr_l6.o2 x2 x9 x10 x12 x116 x117 (IntKind.i64.wrap (x118 + (1 : Int))) h0_ h0__1 h0__2 h0__3 h1_ h1__1 h1__2 h1__3 h1__4 h2_ h2__1 h2__2 h3_ h4_ h4__1 h4__2 h4__3 h4__4 h4__5 h4__6 h4__7 h4__8 h4__9 h4__10)
theorem f3_aiirrzai5zr_l6_j3_ok (k : Nat) (x2 : List Int) (x9 : List T39) (x10 x12 : Int) (x116 : List T39) (x117 x118 : Int) (x148 : Bool) (h0_ h0__1 : Int) (h0__2 : List T65) (h0__3 : List T39) (h1_ h1__1 h1__2 h1__3 h1__4 h2_ h2__1 : Int) (h2__2 : List T65) (h3_ : List T39) (h4_ h4__1 h4__2 h4__3 h4__4 h4__5 h4__6 h4__7 h4__8 h4__9 : Int) (h4__10 : List Int) (r : R3_aiirrzai5zr_l6) (hF : f3_aiirrzai5zr_l6_j3 k x2 x9 x10 x12 x116 x117 x118 x148 h0_ h0__1 h0__2 h0__3 h1_ h1__1 h1__2 h1__3 h1__4 h2_ h2__1 h2__2 h3_ h4_ h4__1 h4__2 h4__3 h4__4 h4__5 h4__6 h4__7 h4__8 h4__9 h4__10 = some r) : EX 3 k (nav B3 [2,2,2,1,2,2,1,2,2,2,2,2,2,2,2,2,2]) (⟨182,[(2,.sl 1 (rowsOf (encI .u8) x2)),(3,.ptr 30000 0),(4,.ptr 30001 0),(8,.ptr 30002 0),(9,.sl 11 (rowsOf encT39 x9)),(10,.p (.int .i64 x10)),(11,.ptr 30004 0),(12,.p (.int .i64 x12)),(116,.sl 11 (rowsOf encT39 x116)),(117,.p (.int .i64 x117)),(118,.p (.int .i64 x118)),(148,.p (.bool x148))],[(30000,.box 26 [.p (.int .i64 h0_),.p (.int .u32 h0__1),.sl 4 (rowsOf encT65 h0__2),.sl 11 (rowsOf encT39 h0__3)]),(30001,.box 28 [.p (.int .i64 h1_),.p (.int .i64 h1__1),.p (.int .i64 h1__2),.p (.int .i64 h1__3),.p (.int .i64 h1__4)]),(30002,.box 26 [.p (.int .i64 h2_),.p (.int .u32 h2__1),.sl 4 (rowsOf encT65 h2__2),.own 30003]),(30003,.row true 11 39 (rowsOf encT39 h3_)),(30004,.box 39 [.p (.int .i64 h4_),.p (.int .i64 h4__1),.p (.int .u32 h4__2),.p (.int .i64 h4__3),.p (.int .i64 h4__4),.p (.int .i64 h4__5),.p (.int .i64 h4__6),.p (.int .i64 h4__7),.p (.int .i64 h4__8),.p (.int .i64 h4__9),.sl 1 (rowsOf (encI .u8) h4__10)])]⟩ : St) = some r.st := by
 unfold f3_aiirrzai5zr_l6_j3 at hF
 cases hF
 simp (maxSteps:=999999) (disch:=first|exact D (by decide)|exact K (by kernel_rfl)) only [E,EE,↓reduceIte,simprocAttr,rg B3 [2,2,2,1,2,2,1,2,2,2,2,2,2,2,2,2,2] 24 false rfl,hr_3_24,R3_aiirrzai5zr_l6.st]
noncomputable def f3_aiirrzai5zr_l6_j2 (k : Nat) (x2 : List Int) (x9 : List T39) (x10 x12 : Int) (x116 : List T39) (x117 x118 : Int) (x139 : Bool) (h0_ h0__1 : Int) (h0__2 : List T65) (h0__3 : List T39) (h1_ h1__1 h1__2 h1__3 h1__4 h2_ h2__1 : Int) (h2__2 : List T65) (h3_ : List T39) (h4_ h4__1 h4__2 h4__3 h4__4 h4__5 h4__6 h4__7 h4__8 h4__9 : Int) (h4__10 : List Int) (m15 m15_1 m15_2 m15_3 m15_4 m15_5 m15_6 m15_7 m15_8 m15_9 : Int) (m15_10 : List Int) : Option R3_aiirrzai5zr_l6 :=
 cond (((IntKind.i64.wrap (x12 + ((List.length m15_10) : Int))) == ((List.length x2) : Int)))
  (some (R3_aiirrzai5zr_l6.o1 x2 x9 x10 (IntKind.i64.wrap (x12 + ((List.length m15_10) : Int))) x116 x117 x118 true h0_ h0__1 h0__2 h0__3 h1_ h1__1 h1__2 h1__3 h1__4 h2_ h2__1 h2__2 h3_ h4_ h4__1 h4__2 h4__3 h4__4 h4__5 h4__6 h4__7 h4__8 h4__9 h4__10))
  (f3_aiirrzai5zr_l6_j3 k x2 x9 x10 (IntKind.i64.wrap (x12 + ((List.length m15_10) : Int))) x116 x117 x118 false h0_ h0__1 h0__2 h0__3 h1_ h1__1 h1__2 h1__3 h1__4 h2_ h2__1 h2__2 h3_ h4_ h4__1 h4__2 h4__3 h4__4 h4__5 h4__6 h4__7 h4__8 h4__9 h4__10)
theorem f3_aiirrzai5zr_l6_j2_ok (k : Nat) (x2 : List Int) (x9 : List T39) (x10 x12 : Int) (x116 : List T39) (x117 x118 : Int) (x139 : Bool) (h0_ h0__1 : Int) (h0__2 : List T65) (h0__3 : List T39) (h1_ h1__1 h1__2 h1__3 h1__4 h2_ h2__1 : Int) (h2__2 : List T65) (h3_ : List T39) (h4_ h4__1 h4__2 h4__3 h4__4 h4__5 h4__6 h4__7 h4__8 h4__9 : Int) (h4__10 : List Int) (m15 m15_1 m15_2 m15_3 m15_4 m15_5 m15_6 m15_7 m15_8 m15_9 : Int) (m15_10 : List Int) (r : R3_aiirrzai5zr_l6) (hF : f3_aiirrzai5zr_l6_j2 k x2 x9 x10 x12 x116 x117 x118 x139 h0_ h0__1 h0__2 h0__3 h1_ h1__1 h1__2 h1__3 h1__4 h2_ h2__1 h2__2 h3_ h4_ h4__1 h4__2 h4__3 h4__4 h4__5 h4__6 h4__7 h4__8 h4__9 h4__10 m15 m15_1 m15_2 m15_3 m15_4 m15_5 m15_6 m15_7 m15_8 m15_9 m15_10 = some r) : SQ 3 k (nav B3 [2,2,2,1,2,2,1,2,2,2,2,2,2,2,2,2,2]) (blockK 1 (EX 3 k (nav B3 [2,2,2,2,2,1,2,2,1,2,2,1,2,2,2,2,2,2,2,2,2,2]) (⟨182,[(2,.sl 1 (rowsOf (encI .u8) x2)),(3,.ptr 30000 0),(4,.ptr 30001 0),(8,.ptr 30002 0),(9,.sl 11 (rowsOf encT39 x9)),(10,.p (.int .i64 x10)),(11,.ptr 30004 0),(12,.p (.int .i64 x12)),(15,.ptr 15 0),(116,.sl 11 (rowsOf encT39 x116)),(117,.p (.int .i64 x117)),(118,.p (.int .i64 x118)),(139,.p (.bool x139))],[(30000,.box 26 [.p (.int .i64 h0_),.p (.int .u32 h0__1),.sl 4 (rowsOf encT65 h0__2),.sl 11 (rowsOf encT39 h0__3)]),(30001,.box 28 [.p (.int .i64 h1_),.p (.int .i64 h1__1),.p (.int .i64 h1__2),.p (.int .i64 h1__3),.p (.int .i64 h1__4)]),(30002,.box 26 [.p (.int .i64 h2_),.p (.int .u32 h2__1),.sl 4 (rowsOf encT65 h2__2),.own 30003]),(30003,.row true 11 39 (rowsOf encT39 h3_)),(30004,.box 39 [.p (.int .i64 h4_),.p (.int .i64 h4__1),.p (.int .u32 h4__2),.p (.int .i64 h4__3),.p (.int .i64 h4__4),.p (.int .i64 h4__5),.p (.int .i64 h4__6),.p (.int .i64 h4__7),.p (.int .i64 h4__8),.p (.int .i64 h4__9),.sl 1 (rowsOf (encI .u8) h4__10)]),(15,.box 39 [.p (.int .i64 m15),.p (.int .i64 m15_1),.p (.int .u32 m15_2),.p (.int .i64 m15_3),.p (.int .i64 m15_4),.p (.int .i64 m15_5),.p (.int .i64 m15_6),.p (.int .i64 m15_7),.p (.int .i64 m15_8),.p (.int .i64 m15_9),.sl 1 (rowsOf (encI .u8) m15_10)])]⟩ : St))) = some r.st := by
 unfold f3_aiirrzai5zr_l6_j2 at hF
 simp (maxSteps:=999999) (disch:=first|exact D (by decide)|exact K (by kernel_rfl)) only [E,EE,↓reduceIte,simprocAttr,xk B3 [2,2,2,2,2,1,2,2,1,2,2,1,2,2,2,2,2,2,2,2,2,2] .sq rfl,rg B3 [1,2,2,2,2,2,1,2,2,1,2,2,1,2,2,2,2,2,2,2,2,2,2] 22 false rfl,hr_3_22,fieldAddrV,t_39,t_29,xk B3 [2,2,2,2,2,2,1,2,2,1,2,2,1,2,2,2,2,2,2,2,2,2,2] .sq rfl,rg B3 [1,2,2,2,2,2,2,1,2,2,1,2,2,1,2,2,2,2,2,2,2,2,2,2] 23 false rfl,hr_3_23,xk B3 [2,2,2,2,2,2,2,1,2,2,1,2,2,1,2,2,2,2,2,2,2,2,2,2] (.cd 148) rfl]
 rcases cond_some hF with ⟨h1,hF⟩ | ⟨h1,hF⟩
 ·cases hF
  simp (maxSteps:=999999) (disch:=first|exact D (by decide)|exact K (by kernel_rfl)) only [E,EE,↓reduceIte,simprocAttr,xk B3 [2,2,2,2,2,2,2,2,1,2,2,1,2,2,1,2,2,2,2,2,2,2,2,2,2] (.ex 0) rfl,R3_aiirrzai5zr_l6.st,h1]
 ·have hJ := f3_aiirrzai5zr_l6_j3_ok k x2 x9 x10 (IntKind.i64.wrap (x12 + ((List.length m15_10) : Int))) x116 x117 x118 false h0_ h0__1 h0__2 h0__3 h1_ h1__1 h1__2 h1__3 h1__4 h2_ h2__1 h2__2 h3_ h4_ h4__1 h4__2 h4__3 h4__4 h4__5 h4__6 h4__7 h4__8 h4__9 h4__10 _ hF
  simp (maxSteps:=999999) (disch:=first|exact D (by decide)|exact K (by kernel_rfl)) only [E,EE,↓reduceIte,simprocAttr,xk B3 [3,2,2,2,2,2,2,2,1,2,2,1,2,2,1,2,2,2,2,2,2,2,2,2,2] .sk rfl,h1]
  try simp only [NM,EE] at hJ
  exact hJ
noncomputable def f3_aiirrzai5zr_l6_j1 (k : Nat) (x2 : List Int) (x9 : List T39) (x10 x12 : Int) (x116 : List T39) (x117 x118 : Int) (x119 : Bool) (h0_ h0__1 : Int) (h0__2 : List T65) (h0__3 : List T39) (h1_ h1__1 h1__2 h1__3 h1__4 h2_ h2__1 : Int) (h2__2 : List T65) (h3_ : List T39) (h4_ h4__1 h4__2 h4__3 h4__4 h4__5 h4__6 h4__7 h4__8 h4__9 : Int) (h4__10 : List Int) : Option R3_aiirrzai5zr_l6 :=
 ifE ((0 : Int) ≤ x118) (
  Option.bind (x116[(Int.toNat x118)]?) fun v2 =>
   ifE ((0 : Int) ≤ x12) (
    ifE ((0 : Int) ≤ (if ((List.length x2) : Int) < (IntKind.i64.wrap (x12 + h1__4)) then ((List.length x2) : Int) else (IntKind.i64.wrap (x12 + h1__4)))) (
     ifE ((Int.toNat x12) ≤ (Int.toNat ((if ((List.length x2) : Int) < (IntKind.i64.wrap (x12 + h1__4)) then ((List.length x2) : Int) else (IntKind.i64.wrap (x12 + h1__4)))))) (
      ifE ((Int.toNat ((if ((List.length x2) : Int) < (IntKind.i64.wrap (x12 + h1__4)) then ((List.length x2) : Int) else (IntKind.i64.wrap (x12 + h1__4))))) ≤ (List.length x2)) (
       Option.bind (f14_ai10rzai10rz k v2.Source v2.Dest v2.Seq v2.Created v2.Lifetime v2.HopLimit v2.Hops v2.Priority v2.Offset v2.Total v2.Payload h4_ h4__1 h4__2 h4__3 h4__4 h4__5 h4__6 h4__7 x12 h4__9 ((List.drop (Int.toNat x12) ((List.take ((Int.toNat ((if ((List.length x2) : Int) < (IntKind.i64.wrap (x12 + h1__4)) then ((List.length x2) : Int) else (IntKind.i64.wrap (x12 + h1__4)))))) x2))))) fun o8 =>
        match o8 with
        | .o0 v11 =>
         cond ((!v11))
          (some (R3_aiirrzai5zr_l6.o0 false))
          (f3_aiirrzai5zr_l6_j2 k x2 x9 x10 x12 x116 x117 x118 false h0_ h0__1 h0__2 h0__3 h1_ h1__1 h1__2 h1__3 h1__4 h2_ h2__1 h2__2 h3_ h4_ h4__1 h4__2 h4__3 h4__4 h4__5 h4__6 h4__7 h4__8 h4__9 h4__10 h4_ h4__1 h4__2 h4__3 h4__4 h4__5 h4__6 h4__7 x12 h4__9 ((List.drop (Int.toNat x12) ((List.take ((Int.toNat ((if ((List.length x2) : Int) < (IntKind.i64.wrap (x12 + h1__4)) then ((List.length x2) : Int) else (IntKind.i64.wrap (x12 + h1__4)))))) x2))))))))))
theorem f3_aiirrzai5zr_l6_j1_ok (k : Nat) (x2 : List Int) (x9 : List T39) (x10 x12 : Int) (x116 : List T39) (x117 x118 : Int) (x119 : Bool) (h0_ h0__1 : Int) (h0__2 : List T65) (h0__3 : List T39) (h1_ h1__1 h1__2 h1__3 h1__4 h2_ h2__1 : Int) (h2__2 : List T65) (h3_ : List T39) (h4_ h4__1 h4__2 h4__3 h4__4 h4__5 h4__6 h4__7 h4__8 h4__9 : Int) (h4__10 : List Int) (r : R3_aiirrzai5zr_l6) (hF : f3_aiirrzai5zr_l6_j1 k x2 x9 x10 x12 x116 x117 x118 x119 h0_ h0__1 h0__2 h0__3 h1_ h1__1 h1__2 h1__3 h1__4 h2_ h2__1 h2__2 h3_ h4_ h4__1 h4__2 h4__3 h4__4 h4__5 h4__6 h4__7 h4__8 h4__9 h4__10 = some r) : EX 3 k (nav B3 [2,2,1,2,2,1,2,2,2,2,2,2,2,2,2,2]) (⟨182,[(2,.sl 1 (rowsOf (encI .u8) x2)),(3,.ptr 30000 0),(4,.ptr 30001 0),(8,.ptr 30002 0),(9,.sl 11 (rowsOf encT39 x9)),(10,.p (.int .i64 x10)),(11,.ptr 30004 0),(12,.p (.int .i64 x12)),(116,.sl 11 (rowsOf encT39 x116)),(117,.p (.int .i64 x117)),(118,.p (.int .i64 x118)),(119,.p (.bool x119))],[(30000,.box 26 [.p (.int .i64 h0_),.p (.int .u32 h0__1),.sl 4 (rowsOf encT65 h0__2),.sl 11 (rowsOf encT39 h0__3)]),(30001,.box 28 [.p (.int .i64 h1_),.p (.int .i64 h1__1),.p (.int .i64 h1__2),.p (.int .i64 h1__3),.p (.int .i64 h1__4)]),(30002,.box 26 [.p (.int .i64 h2_),.p (.int .u32 h2__1),.sl 4 (rowsOf encT65 h2__2),.own 30003]),(30003,.row true 11 39 (rowsOf encT39 h3_)),(30004,.box 39 [.p (.int .i64 h4_),.p (.int .i64 h4__1),.p (.int .u32 h4__2),.p (.int .i64 h4__3),.p (.int .i64 h4__4),.p (.int .i64 h4__5),.p (.int .i64 h4__6),.p (.int .i64 h4__7),.p (.int .i64 h4__8),.p (.int .i64 h4__9),.sl 1 (rowsOf (encI .u8) h4__10)])]⟩ : St) = some r.st := by
 unfold f3_aiirrzai5zr_l6_j1 at hF
 obtain ⟨h1,hF⟩ := ifE_some.1 hF
 obtain ⟨v2,h3,hF⟩ := bs hF
 obtain ⟨h4,hF⟩ := ifE_some.1 hF
 obtain ⟨h5,hF⟩ := ifE_some.1 hF
 obtain ⟨h6,hF⟩ := ifE_some.1 hF
 obtain ⟨h7,hF⟩ := ifE_some.1 hF
 obtain ⟨o8,h9,hF⟩ := bs hF
 have hc10 := f14_ai10rzai10rz_ok k v2.Source v2.Dest v2.Seq v2.Created v2.Lifetime v2.HopLimit v2.Hops v2.Priority v2.Offset v2.Total v2.Payload h4_ h4__1 h4__2 h4__3 h4__4 h4__5 h4__6 h4__7 x12 h4__9 ((List.drop (Int.toNat x12) ((List.take ((Int.toNat ((if ((List.length x2) : Int) < (IntKind.i64.wrap (x12 + h1__4)) then ((List.length x2) : Int) else (IntKind.i64.wrap (x12 + h1__4)))))) x2)))) _ h9
 cases o8 with
 | o0 v11 =>
  (try dsimp only at hF)
  (try simp only [NM,EE,R14_ai10rzai10rz.st] at hc10)
  simp (maxSteps:=999999) (disch:=first|exact D (by decide)|exact K (by kernel_rfl)) only [E,EE,↓reduceIte,simprocAttr,xk B3 [2,2,1,2,2,1,2,2,2,2,2,2,2,2,2,2] .sq rfl,xk B3 [1,2,2,1,2,2,1,2,2,2,2,2,2,2,2,2,2] (.bk 1) rfl,xk B3 [2,1,2,2,1,2,2,1,2,2,2,2,2,2,2,2,2,2] .sq rfl,rg B3 [1,2,1,2,2,1,2,2,1,2,2,2,2,2,2,2,2,2,2] 17 false rfl,hr_3_17,indexAddrV,t_24,t_39,encT39_eq,xk B3 [2,2,1,2,2,1,2,2,1,2,2,2,2,2,2,2,2,2,2] .sq rfl,rg B3 [1,2,2,1,2,2,1,2,2,1,2,2,2,2,2,2,2,2,2,2] 18 false rfl,hr_3_18,xk B3 [2,2,2,1,2,2,1,2,2,1,2,2,2,2,2,2,2,2,2,2] .sq rfl,rg B3 [1,2,2,2,1,2,2,1,2,2,1,2,2,2,2,2,2,2,2,2,2] 19 true rfl,hr_3_19,fieldAddrV,t_28,t_3,t_29,minmaxV,minmaxGo,sliceV,bound,t_5,xk B3 [2,2,2,2,1,2,2,1,2,2,1,2,2,2,2,2,2,2,2,2,2] .sq rfl,xk B3 [1,2,2,2,2,1,2,2,1,2,2,1,2,2,2,2,2,2,2,2,2,2] .sq rfl,rg B3 [1,1,2,2,2,2,1,2,2,1,2,2,1,2,2,2,2,2,2,2,2,2,2] 20 false rfl,hr_3_20,callStep,CL,gv,List.contains,xk B3 [2,1,2,2,2,2,1,2,2,1,2,2,1,2,2,2,2,2,2,2,2,2,2] (.cd 139) rfl,h1,h3,h4,h5,h6,h7,hc10]
  rcases cond_some hF with ⟨h12,hF⟩ | ⟨h12,hF⟩
  ·cases hF
   simp (maxSteps:=999999) (disch:=first|exact D (by decide)|exact K (by kernel_rfl)) only [E,EE,↓reduceIte,simprocAttr,xk B3 [2,2,1,2,2,2,2,1,2,2,1,2,2,1,2,2,2,2,2,2,2,2,2,2] .sq rfl,rg B3 [1,2,2,1,2,2,2,2,1,2,2,1,2,2,1,2,2,2,2,2,2,2,2,2,2] 21 false rfl,hr_3_21,xk B3 [2,2,2,1,2,2,2,2,1,2,2,1,2,2,1,2,2,2,2,2,2,2,2,2,2] .rt rfl,R3_aiirrzai5zr_l6.st,h1,h3,h4,h5,h6,h7,hc10,h12]
  ·have hJ := f3_aiirrzai5zr_l6_j2_ok k x2 x9 x10 x12 x116 x117 x118 false h0_ h0__1 h0__2 h0__3 h1_ h1__1 h1__2 h1__3 h1__4 h2_ h2__1 h2__2 h3_ h4_ h4__1 h4__2 h4__3 h4__4 h4__5 h4__6 h4__7 h4__8 h4__9 h4__10 h4_ h4__1 h4__2 h4__3 h4__4 h4__5 h4__6 h4__7 x12 h4__9 ((List.drop (Int.toNat x12) ((List.take ((Int.toNat ((if ((List.length x2) : Int) < (IntKind.i64.wrap (x12 + h1__4)) then ((List.length x2) : Int) else (IntKind.i64.wrap (x12 + h1__4)))))) x2)))) _ hF
   simp (maxSteps:=999999) (disch:=first|exact D (by decide)|exact K (by kernel_rfl)) only [E,EE,↓reduceIte,simprocAttr,xk B3 [3,2,1,2,2,2,2,1,2,2,1,2,2,1,2,2,2,2,2,2,2,2,2,2] .sk rfl,h1,h3,h4,h5,h6,h7,hc10,h12]
   try simp only [NM,EE] at hJ
   exact hJ
noncomputable def f3_aiirrzai5zr_l6_b (k : Nat) (x2 : List Int) (x9 : List T39) (x10 x12 : Int) (x116 : List T39) (x117 x118 h0_ h0__1 : Int) (h0__2 : List T65) (h0__3 : List T39) (h1_ h1__1 h1__2 h1__3 h1__4 h2_ h2__1 : Int) (h2__2 : List T65) (h3_ : List T39) (h4_ h4__1 h4__2 h4__3 h4__4 h4__5 h4__6 h4__7 h4__8 h4__9 : Int) (h4__10 : List Int) : Option R3_aiirrzai5zr_l6 :=
 cond ((decide (x118 < x117)))
  (f3_aiirrzai5zr_l6_j1 k x2 x9 x10 x12 x116 x117 x118 true h0_ h0__1 h0__2 h0__3 h1_ h1__1 h1__2 h1__3 h1__4 h2_ h2__1 h2__2 h3_ h4_ h4__1 h4__2 h4__3 h4__4 h4__5 h4__6 h4__7 h4__8 h4__9 h4__10)
  (some (R3_aiirrzai5zr_l6.o3 x2 x9 x10 x12 x116 x117 x118 false h0_ h0__1 h0__2 h0__3 h1_ h1__1 h1__2 h1__3 h1__4 h2_ h2__1 h2__2 h3_ h4_ h4__1 h4__2 h4__3 h4__4 h4__5 h4__6 h4__7 h4__8 h4__9 h4__10))
theorem f3_aiirrzai5zr_l6_b_ok (k : Nat) (x2 : List Int) (x9 : List T39) (x10 x12 : Int) (x116 : List T39) (x117 x118 h0_ h0__1 : Int) (h0__2 : List T65) (h0__3 : List T39) (h1_ h1__1 h1__2 h1__3 h1__4 h2_ h2__1 : Int) (h2__2 : List T65) (h3_ : List T39) (h4_ h4__1 h4__2 h4__3 h4__4 h4__5 h4__6 h4__7 h4__8 h4__9 : Int) (h4__10 : List Int) (r : R3_aiirrzai5zr_l6) (hF : f3_aiirrzai5zr_l6_b k x2 x9 x10 x12 x116 x117 x118 h0_ h0__1 h0__2 h0__3 h1_ h1__1 h1__2 h1__3 h1__4 h2_ h2__1 h2__2 h3_ h4_ h4__1 h4__2 h4__3 h4__4 h4__5 h4__6 h4__7 h4__8 h4__9 h4__10 = some r) : EX 3 k (nav B3 [1,2,2,1,2,2,2,2,2,2,2,2,2,2]) (⟨182,[(2,.sl 1 (rowsOf (encI .u8) x2)),(3,.ptr 30000 0),(4,.ptr 30001 0),(8,.ptr 30002 0),(9,.sl 11 (rowsOf encT39 x9)),(10,.p (.int .i64 x10)),(11,.ptr 30004 0),(12,.p (.int .i64 x12)),(116,.sl 11 (rowsOf encT39 x116)),(117,.p (.int .i64 x117)),(118,.p (.int .i64 x118))],[(30000,.box 26 [.p (.int .i64 h0_),.p (.int .u32 h0__1),.sl 4 (rowsOf encT65 h0__2),.sl 11 (rowsOf encT39 h0__3)]),(30001,.box 28 [.p (.int .i64 h1_),.p (.int .i64 h1__1),.p (.int .i64 h1__2),.p (.int .i64 h1__3),.p (.int .i64 h1__4)]),(30002,.box 26 [.p (.int .i64 h2_),.p (.int .u32 h2__1),.sl 4 (rowsOf encT65 h2__2),.own 30003]),(30003,.row true 11 39 (rowsOf encT39 h3_)),(30004,.box 39 [.p (.int .i64 h4_),.p (.int .i64 h4__1),.p (.int .u32 h4__2),.p (.int .i64 h4__3),.p (.int .i64 h4__4),.p (.int .i64 h4__5),.p (.int .i64 h4__6),.p (.int .i64 h4__7),.p (.int .i64 h4__8),.p (.int .i64 h4__9),.sl 1 (rowsOf (encI .u8) h4__10)])]⟩ : St) = some r.st := by
 unfold f3_aiirrzai5zr_l6_b at hF
 simp (maxSteps:=999999) (disch:=first|exact D (by decide)|exact K (by kernel_rfl)) only [E,EE,↓reduceIte,simprocAttr,xk B3 [1,2,2,1,2,2,2,2,2,2,2,2,2,2] .sq rfl,rg B3 [1,1,2,2,1,2,2,2,2,2,2,2,2,2,2] 16 false rfl,hr_3_16,xk B3 [2,1,2,2,1,2,2,2,2,2,2,2,2,2,2] .sq rfl,xk B3 [1,2,1,2,2,1,2,2,2,2,2,2,2,2,2,2] (.cd 119) rfl]
 rcases cond_some hF with ⟨h1,hF⟩ | ⟨h1,hF⟩
 ·have hJ := f3_aiirrzai5zr_l6_j1_ok k x2 x9 x10 x12 x116 x117 x118 true h0_ h0__1 h0__2 h0__3 h1_ h1__1 h1__2 h1__3 h1__4 h2_ h2__1 h2__2 h3_ h4_ h4__1 h4__2 h4__3 h4__4 h4__5 h4__6 h4__7 h4__8 h4__9 h4__10 _ hF
  simp (maxSteps:=999999) (disch:=first|exact D (by decide)|exact K (by kernel_rfl)) only [E,EE,↓reduceIte,simprocAttr,xk B3 [2,1,2,1,2,2,1,2,2,2,2,2,2,2,2,2,2] .sk rfl,h1]
  try simp only [NM,EE] at hJ
  exact hJ
 ·cases hF
  simp (maxSteps:=999999) (disch:=first|exact D (by decide)|exact K (by kernel_rfl)) only [E,EE,↓reduceIte,simprocAttr,xk B3 [3,1,2,1,2,2,1,2,2,2,2,2,2,2,2,2,2] (.ex 0) rfl,R3_aiirrzai5zr_l6.st,h1]
noncomputable def f3_aiirrzai5zr_l6 (k : Nat) : Nat → (List Int) → (List T39) → Int → Int → (List T39) → Int → Int → Int → Int → (List T65) → (List T39) → Int → Int → Int → Int → Int → Int → Int → (List T65) → (List T39) → Int → Int → Int → Int → Int → Int → Int → Int → Int → Int → (List Int) → Option R3_aiirrzai5zr_l6
 | 0,_,_,_,_,_,_,_,_,_,_,_,_,_,_,_,_,_,_,_,_,_,_,_,_,_,_,_,_,_,_,_ => none
 | n + 1,x2,x9,x10,x12,x116,x117,x118,h0_,h0__1,h0__2,h0__3,h1_,h1__1,h1__2,h1__3,h1__4,h2_,h2__1,h2__2,h3_,h4_,h4__1,h4__2,h4__3,h4__4,h4__5,h4__6,h4__7,h4__8,h4__9,h4__10 => Option.bind (f3_aiirrzai5zr_l6_b k x2 x9 x10 x12 x116 x117 x118 h0_ h0__1 h0__2 h0__3 h1_ h1__1 h1__2 h1__3 h1__4 h2_ h2__1 h2__2 h3_ h4_ h4__1 h4__2 h4__3 h4__4 h4__5 h4__6 h4__7 h4__8 h4__9 h4__10) fun o =>
  match o with
  | .o0 y => some (.o0 y)
  | .o1 y y_1 y_2 y_3 y_4 y_5 y_6 y_7 y_8 y_9 y_10 y_11 y_12 y_13 y_14 y_15 y_16 y_17 y_18 y_19 y_20 y_21 y_22 y_23 y_24 y_25 y_26 y_27 y_28 y_29 y_30 y_31 => some (.o1 y y_1 y_2 y_3 y_4 y_5 y_6 y_7 y_8 y_9 y_10 y_11 y_12 y_13 y_14 y_15 y_16 y_17 y_18 y_19 y_20 y_21 y_22 y_23 y_24 y_25 y_26 y_27 y_28 y_29 y_30 y_31)
  | .o2 y y_1 y_2 y_3 y_4 y_5 y_6 y_7 y_8 y_9 y_10 y_11 y_12 y_13 y_14 y_15 y_16 y_17 y_18 y_19 y_20 y_21 y_22 y_23 y_24 y_25 y_26 y_27 y_28 y_29 y_30 => f3_aiirrzai5zr_l6 k n y y_1 y_2 y_3 y_4 y_5 y_6 y_7 y_8 y_9 y_10 y_11 y_12 y_13 y_14 y_15 y_16 y_17 y_18 y_19 y_20 y_21 y_22 y_23 y_24 y_25 y_26 y_27 y_28 y_29 y_30
  | .o3 y y_1 y_2 y_3 y_4 y_5 y_6 y_7 y_8 y_9 y_10 y_11 y_12 y_13 y_14 y_15 y_16 y_17 y_18 y_19 y_20 y_21 y_22 y_23 y_24 y_25 y_26 y_27 y_28 y_29 y_30 y_31 => some (.o3 y y_1 y_2 y_3 y_4 y_5 y_6 y_7 y_8 y_9 y_10 y_11 y_12 y_13 y_14 y_15 y_16 y_17 y_18 y_19 y_20 y_21 y_22 y_23 y_24 y_25 y_26 y_27 y_28 y_29 y_30 y_31)
theorem f3_aiirrzai5zr_l6_ok (k n : Nat) : ∀ (x2 : List Int) (x9 : List T39) (x10 x12 : Int) (x116 : List T39) (x117 x118 h0_ h0__1 : Int) (h0__2 : List T65) (h0__3 : List T39) (h1_ h1__1 h1__2 h1__3 h1__4 h2_ h2__1 : Int) (h2__2 : List T65) (h3_ : List T39) (h4_ h4__1 h4__2 h4__3 h4__4 h4__5 h4__6 h4__7 h4__8 h4__9 : Int) (h4__10 : List Int) (r : R3_aiirrzai5zr_l6) (hF : f3_aiirrzai5zr_l6 k n x2 x9 x10 x12 x116 x117 x118 h0_ h0__1 h0__2 h0__3 h1_ h1__1 h1__2 h1__3 h1__4 h2_ h2__1 h2__2 h3_ h4_ h4__1 h4__2 h4__3 h4__4 h4__5 h4__6 h4__7 h4__8 h4__9 h4__10 = some r) (σ : St) (hσ : headR (hints.head 3 16) (hints.canon 3 16) σ = some (⟨182,[(2,.sl 1 (rowsOf (encI .u8) x2)),(3,.ptr 30000 0),(4,.ptr 30001 0),(8,.ptr 30002 0),(9,.sl 11 (rowsOf encT39 x9)),(10,.p (.int .i64 x10)),(11,.ptr 30004 0),(12,.p (.int .i64 x12)),(116,.sl 11 (rowsOf encT39 x116)),(117,.p (.int .i64 x117)),(118,.p (.int .i64 x118))],[(30000,.box 26 [.p (.int .i64 h0_),.p (.int .u32 h0__1),.sl 4 (rowsOf encT65 h0__2),.sl 11 (rowsOf encT39 h0__3)]),(30001,.box 28 [.p (.int .i64 h1_),.p (.int .i64 h1__1),.p (.int .i64 h1__2),.p (.int .i64 h1__3),.p (.int .i64 h1__4)]),(30002,.box 26 [.p (.int .i64 h2_),.p (.int .u32 h2__1),.sl 4 (rowsOf encT65 h2__2),.own 30003]),(30003,.row true 11 39 (rowsOf encT39 h3_)),(30004,.box 39 [.p (.int .i64 h4_),.p (.int .i64 h4__1),.p (.int .u32 h4__2),.p (.int .i64 h4__3),.p (.int .i64 h4__4),.p (.int .i64 h4__5),.p (.int .i64 h4__6),.p (.int .i64 h4__7),.p (.int .i64 h4__8),.p (.int .i64 h4__9),.sl 1 (rowsOf (encI .u8) h4__10)])]⟩ : St)),LP 3 k (nav B3 [1,2,2,1,2,2,2,2,2,2,2,2,2,2]) n σ = some r.st := by
 induction n with
 | zero => intro x2 x9 x10 x12 x116 x117 x118 h0_ h0__1 h0__2 h0__3 h1_ h1__1 h1__2 h1__3 h1__4 h2_ h2__1 h2__2 h3_ h4_ h4__1 h4__2 h4__3 h4__4 h4__5 h4__6 h4__7 h4__8 h4__9 h4__10 r hF; cases hF
 | succ n ih =>
  intro x2 x9 x10 x12 x116 x117 x118 h0_ h0__1 h0__2 h0__3 h1_ h1__1 h1__2 h1__3 h1__4 h2_ h2__1 h2__2 h3_ h4_ h4__1 h4__2 h4__3 h4__4 h4__5 h4__6 h4__7 h4__8 h4__9 h4__10 r hF σ hσ
  rw [f3_aiirrzai5zr_l6] at hF
  obtain ⟨o,h,hF⟩ := Option.bind_eq_some_iff.1 hF
  have hB := f3_aiirrzai5zr_l6_b_ok k x2 x9 x10 x12 x116 x117 x118 h0_ h0__1 h0__2 h0__3 h1_ h1__1 h1__2 h1__3 h1__4 h2_ h2__1 h2__2 h3_ h4_ h4__1 h4__2 h4__3 h4__4 h4__5 h4__6 h4__7 h4__8 h4__9 h4__10 o h
  unfold LP at ih ⊢
  unfold EX at hB
  rw [loopK_succ,show firstReg (nav B3 [1,2,2,1,2,2,2,2,2,2,2,2,2,2]) = 16 from rfl,hσ,headK_some,hB]
  cases o with
  | o0 y => cases hF; rfl
  | o1 y y_1 y_2 y_3 y_4 y_5 y_6 y_7 y_8 y_9 y_10 y_11 y_12 y_13 y_14 y_15 y_16 y_17 y_18 y_19 y_20 y_21 y_22 y_23 y_24 y_25 y_26 y_27 y_28 y_29 y_30 y_31 => cases hF; rfl
  | o2 y y_1 y_2 y_3 y_4 y_5 y_6 y_7 y_8 y_9 y_10 y_11 y_12 y_13 y_14 y_15 y_16 y_17 y_18 y_19 y_20 y_21 y_22 y_23 y_24 y_25 y_26 y_27 y_28 y_29 y_30 =>
   refine ih y y_1 y_2 y_3 y_4 y_5 y_6 y_7 y_8 y_9 y_10 y_11 y_12 y_13 y_14 y_15 y_16 y_17 y_18 y_19 y_20 y_21 y_22 y_23 y_24 y_25 y_26 y_27 y_28 y_29 y_30 r hF _ ?_
   simp (maxSteps:=999999) (disch:=first|exact D (by decide)|exact K (by kernel_rfl)) only [E,EE,↓reduceIte,simprocAttr,hh_3_16,hc_3_16]
  | o3 y y_1 y_2 y_3 y_4 y_5 y_6 y_7 y_8 y_9 y_10 y_11 y_12 y_13 y_14 y_15 y_16 y_17 y_18 y_19 y_20 y_21 y_22 y_23 y_24 y_25 y_26 y_27 y_28 y_29 y_30 y_31 => cases hF; rfl
noncomputable def f3_aiirrzai5zr_j7 (k : Nat) (x2 : List Int) (x9 : List T39) (x10 x12 : Int) (x116 : List T39) (x117 x118 : Int) (x148 : Bool) (h0_ h0__1 : Int) (h0__2 : List T65) (h0__3 : List T39) (h1_ h1__1 h1__2 h1__3 h1__4 h2_ h2__1 : Int) (h2__2 : List T65) (h3_ : List T39) (h4_ h4__1 h4__2 h4__3 h4__4 h4__5 h4__6 h4__7 h4__8 h4__9 : Int) (h4__10 : List Int) : Option R3_aiirrzai5zr :=
 cond ((x10 == 0))
  (
   cond ((x12 == ((List.length x2) : Int)))
    (
     ifE (¬ h1__4 = 0) (
      cond ((((List.length x9) : Int) == (IntKind.i64.wrap (Int.tdiv (IntKind.i64.wrap ((IntKind.i64.wrap (((List.length x2) : Int) + h1__4)) - (1 : Int))) h1__4))))
       (
        Option.bind (f15_aiirrzaiirrz k h2_ h2__1 h2__2 h3_ h0_ (IntKind.u32.wrap (h0__1 + (1 : Int))) h0__2 h0__3) fun o5 =>
         match o5 with
         | .o0 v8 =>
          some (R3_aiirrzai5zr.o0 v8))
       (some (R3_aiirrzai5zr.o0 false))))
    (some (R3_aiirrzai5zr.o0 false)))
  (some (R3_aiirrzai5zr.o0 false))
theorem f3_aiirrzai5zr_j7_ok (k : Nat) (x2 : List Int) (x9 : List T39) (x10 x12 : Int) (x116 : List T39) (x117 x118 : Int) (x148 : Bool) (h0_ h0__1 : Int) (h0__2 : List T65) (h0__3 : List T39) (h1_ h1__1 h1__2 h1__3 h1__4 h2_ h2__1 : Int) (h2__2 : List T65) (h3_ : List T39) (h4_ h4__1 h4__2 h4__3 h4__4 h4__5 h4__6 h4__7 h4__8 h4__9 : Int) (h4__10 : List Int) (r : R3_aiirrzai5zr) (hF : f3_aiirrzai5zr_j7 k x2 x9 x10 x12 x116 x117 x118 x148 h0_ h0__1 h0__2 h0__3 h1_ h1__1 h1__2 h1__3 h1__4 h2_ h2__1 h2__2 h3_ h4_ h4__1 h4__2 h4__3 h4__4 h4__5 h4__6 h4__7 h4__8 h4__9 h4__10 = some r) : finK Try.prog Try.f3 0 (EX 3 k (nav B3 [2,2,2,2,2,2,2,2,2,2,2]) (⟨182,[(2,.sl 1 (rowsOf (encI .u8) x2)),(3,.ptr 30000 0),(4,.ptr 30001 0),(8,.ptr 30002 0),(9,.sl 11 (rowsOf encT39 x9)),(10,.p (.int .i64 x10)),(11,.ptr 30004 0),(12,.p (.int .i64 x12)),(116,.sl 11 (rowsOf encT39 x116)),(117,.p (.int .i64 x117)),(118,.p (.int .i64 x118)),(148,.p (.bool x148))],[(30000,.box 26 [.p (.int .i64 h0_),.p (.int .u32 h0__1),.sl 4 (rowsOf encT65 h0__2),.sl 11 (rowsOf encT39 h0__3)]),(30001,.box 28 [.p (.int .i64 h1_),.p (.int .i64 h1__1),.p (.int .i64 h1__2),.p (.int .i64 h1__3),.p (.int .i64 h1__4)]),(30002,.box 26 [.p (.int .i64 h2_),.p (.int .u32 h2__1),.sl 4 (rowsOf encT65 h2__2),.own 30003]),(30003,.row true 11 39 (rowsOf encT39 h3_)),(30004,.box 39 [.p (.int .i64 h4_),.p (.int .i64 h4__1),.p (.int .u32 h4__2),.p (.int .i64 h4__3),.p (.int .i64 h4__4),.p (.int .i64 h4__5),.p (.int .i64 h4__6),.p (.int .i64 h4__7),.p (.int .i64 h4__8),.p (.int .i64 h4__9),.sl 1 (rowsOf (encI .u8) h4__10)])]⟩ : St)) = some r.st := by
 unfold f3_aiirrzai5zr_j7 at hF
 simp (maxSteps:=999999) (disch:=first|exact D (by decide)|exact K (by kernel_rfl)) only [E,EE,↓reduceIte,simprocAttr,xk B3 [2,2,2,2,2,2,2,2,2,2,2] .sq rfl,rg B3 [1,2,2,2,2,2,2,2,2,2,2,2] 25 false rfl,hr_3_25,t_26,xk B3 [2,2,2,2,2,2,2,2,2,2,2,2] .sq rfl,rg B3 [1,2,2,2,2,2,2,2,2,2,2,2,2] 26 false rfl,hr_3_26,fieldAddrV,t_22,xk B3 [2,2,2,2,2,2,2,2,2,2,2,2,2] .sq rfl,rg B3 [1,2,2,2,2,2,2,2,2,2,2,2,2,2] 27 false rfl,hr_3_27]
 rcases cond_some hF with ⟨h1,hF⟩ | ⟨h1,hF⟩
 ·simp (maxSteps:=999999) (disch:=first|exact D (by decide)|exact K (by kernel_rfl)) only [E,EE,↓reduceIte,simprocAttr,t_29,h1]
  rcases cond_some hF with ⟨h2,hF⟩ | ⟨h2,hF⟩
  ·obtain ⟨h3,hF⟩ := ifE_some.1 hF
   simp (maxSteps:=999999) (disch:=first|exact D (by decide)|exact K (by kernel_rfl)) only [E,EE,↓reduceIte,simprocAttr,t_24,t_29,fieldAddrV,t_28,t_3,h1,h2,h3]
   rcases cond_some hF with ⟨h4,hF⟩ | ⟨h4,hF⟩
   ·obtain ⟨o5,h6,hF⟩ := bs hF
    have hc7 := f15_aiirrzaiirrz_ok k h2_ h2__1 h2__2 h3_ h0_ (IntKind.u32.wrap (h0__1 + (1 : Int))) h0__2 h0__3 _ h6
    cases o5 with
    | o0 v8 =>
     (try dsimp only at hF)
     (try simp only [NM,EE,R15_aiirrzaiirrz.st] at hc7)
     cases hF
     simp (maxSteps:=999999) (disch:=first|exact D (by decide)|exact K (by kernel_rfl)) only [E,EE,↓reduceIte,simprocAttr,t_26,callStep,CL,gv,List.contains,xk B3 [2,2,2,2,2,2,2,2,2,2,2,2,2,2] .rt rfl,finK_norm,finK_ret,fin3,R3_aiirrzai5zr.st,h1,h2,h3,h4,hc7]
   ·cases hF
    simp (maxSteps:=999999) (disch:=first|exact D (by decide)|exact K (by kernel_rfl)) only [E,EE,↓reduceIte,simprocAttr,xk B3 [2,2,2,2,2,2,2,2,2,2,2,2,2,2] .rt rfl,finK_norm,finK_ret,fin3,R3_aiirrzai5zr.st,h1,h2,h3,h4]
  ·cases hF
   simp (maxSteps:=999999) (disch:=first|exact D (by decide)|exact K (by kernel_rfl)) only [E,EE,↓reduceIte,simprocAttr,xk B3 [2,2,2,2,2,2,2,2,2,2,2,2,2,2] .rt rfl,finK_norm,finK_ret,fin3,R3_aiirrzai5zr.st,h1,h2]
 ·cases hF
  simp (maxSteps:=999999) (disch:=first|exact D (by decide)|exact K (by kernel_rfl)) only [E,EE,↓reduceIte,simprocAttr,xk B3 [2,2,2,2,2,2,2,2,2,2,2,2,2,2] .rt rfl,finK_norm,finK_ret,fin3,R3_aiirrzai5zr.st,h1]
noncomputable def f3_aiirrzai5zr_j8 (k : Nat) (x2 : List Int) (x9 : List T39) (x10 x12 : Int) (x116 : List T39) (x117 x118 : Int) (x119 : Bool) (h0_ h0__1 : Int) (h0__2 : List T65) (h0__3 : List T39) (h1_ h1__1 h1__2 h1__3 h1__4 h2_ h2__1 : Int) (h2__2 : List T65) (h3_ : List T39) (h4_ h4__1 h4__2 h4__3 h4__4 h4__5 h4__6 h4__7 h4__8 h4__9 : Int) (h4__10 : List Int) : Option R3_aiirrzai5zr :=
 cond ((x10 == 0))
  (
   cond ((x12 == ((List.length x2) : Int)))
    (
     ifE (¬ h1__4 = 0) (
      cond ((((List.length x9) : Int) == (IntKind.i64.wrap (Int.tdiv (IntKind.i64.wrap ((IntKind.i64.wrap (((List.length x2) : Int) + h1__4)) - (1 : Int))) h1__4))))
       (
        Option.bind (f15_aiirrzaiirrz k h2_ h2__1 h2__2 h3_ h0_ (IntKind.u32.wrap (h0__1 + (1 : Int))) h0__2 h0__3) fun o5 =>
         match o5 with
         | .o0 v8 =>
          some (R3_aiirrzai5zr.o0 v8))
       (some (R3_aiirrzai5zr.o0 false))))
    (some (R3_aiirrzai5zr.o0 false)))
  (some (R3_aiirrzai5zr.o0 false))
theorem f3_aiirrzai5zr_j8_ok (k : Nat) (x2 : List Int) (x9 : List T39) (x10 x12 : Int) (x116 : List T39) (x117 x118 : Int) (x119 : Bool) (h0_ h0__1 : Int) (h0__2 : List T65) (h0__3 : List T39) (h1_ h1__1 h1__2 h1__3 h1__4 h2_ h2__1 : Int) (h2__2 : List T65) (h3_ : List T39) (h4_ h4__1 h4__2 h4__3 h4__4 h4__5 h4__6 h4__7 h4__8 h4__9 : Int) (h4__10 : List Int) (r : R3_aiirrzai5zr) (hF : f3_aiirrzai5zr_j8 k x2 x9 x10 x12 x116 x117 x118 x119 h0_ h0__1 h0__2 h0__3 h1_ h1__1 h1__2 h1__3 h1__4 h2_ h2__1 h2__2 h3_ h4_ h4__1 h4__2 h4__3 h4__4 h4__5 h4__6 h4__7 h4__8 h4__9 h4__10 = some r) : finK Try.prog Try.f3 0 (EX 3 k (nav B3 [2,2,2,2,2,2,2,2,2,2,2]) (⟨182,[(2,.sl 1 (rowsOf (encI .u8) x2)),(3,.ptr 30000 0),(4,.ptr 30001 0),(8,.ptr 30002 0),(9,.sl 11 (rowsOf encT39 x9)),(10,.p (.int .i64 x10)),(11,.ptr 30004 0),(12,.p (.int .i64 x12)),(116,.sl 11 (rowsOf encT39 x116)),(117,.p (.int .i64 x117)),(118,.p (.int .i64 x118)),(119,.p (.bool x119))],[(30000,.box 26 [.p (.int .i64 h0_),.p (.int .u32 h0__1),.sl 4 (rowsOf encT65 h0__2),.sl 11 (rowsOf encT39 h0__3)]),(30001,.box 28 [.p (.int .i64 h1_),.p (.int .i64 h1__1),.p (.int .i64 h1__2),.p (.int .i64 h1__3),.p (.int .i64 h1__4)]),(30002,.box 26 [.p (.int .i64 h2_),.p (.int .u32 h2__1),.sl 4 (rowsOf encT65 h2__2),.own 30003]),(30003,.row true 11 39 (rowsOf encT39 h3_)),(30004,.box 39 [.p (.int .i64 h4_),.p (.int .i64 h4__1),.p (.int .u32 h4__2),.p (.int .i64 h4__3),.p (.int .i64 h4__4),.p (.int .i64 h4__5),.p (.int .i64 h4__6),.p (.int .i64 h4__7),.p (.int .i64 h4__8),.p (.int .i64 h4__9),.sl 1 (rowsOf (encI .u8) h4__10)])]⟩ : St)) = some r.st := by
 unfold f3_aiirrzai5zr_j8 at hF
 simp (maxSteps:=999999) (disch:=first|exact D (by decide)|exact K (by kernel_rfl)) only [E,EE,↓reduceIte,simprocAttr,xk B3 [2,2,2,2,2,2,2,2,2,2,2] .sq rfl,rg B3 [1,2,2,2,2,2,2,2,2,2,2,2] 25 false rfl,hr_3_25,t_26,xk B3 [2,2,2,2,2,2,2,2,2,2,2,2] .sq rfl,rg B3 [1,2,2,2,2,2,2,2,2,2,2,2,2] 26 false rfl,hr_3_26,fieldAddrV,t_22,xk B3 [2,2,2,2,2,2,2,2,2,2,2,2,2] .sq rfl,rg B3 [1,2,2,2,2,2,2,2,2,2,2,2,2,2] 27 false rfl,hr_3_27]
 rcases cond_some hF with ⟨h1,hF⟩ | ⟨h1,hF⟩
 ·simp (maxSteps:=999999) (disch:=first|exact D (by decide)|exact K (by kernel_rfl)) only [E,EE,↓reduceIte,simprocAttr,t_29,h1]
  rcases cond_some hF with ⟨h2,hF⟩ | ⟨h2,hF⟩
  ·obtain ⟨h3,hF⟩ := ifE_some.1 hF
   simp (maxSteps:=999999) (disch:=first|exact D (by decide)|exact K (by kernel_rfl)) only [E,EE,↓reduceIte,simprocAttr,t_24,t_29,fieldAddrV,t_28,t_3,h1,h2,h3]
   rcases cond_some hF with ⟨h4,hF⟩ | ⟨h4,hF⟩
   ·obtain ⟨o5,h6,hF⟩ := bs hF
    have hc7 := f15_aiirrzaiirrz_ok k h2_ h2__1 h2__2 h3_ h0_ (IntKind.u32.wrap (h0__1 + (1 : Int))) h0__2 h0__3 _ h6
    cases o5 with
    | o0 v8 =>
     (try dsimp only at hF)
     (try simp only [NM,EE,R15_aiirrzaiirrz.st] at hc7)
     cases hF
     simp (maxSteps:=999999) (disch:=first|exact D (by decide)|exact K (by kernel_rfl)) only [E,EE,↓reduceIte,simprocAttr,t_26,callStep,CL,gv,List.contains,xk B3 [2,2,2,2,2,2,2,2,2,2,2,2,2,2] .rt rfl,finK_norm,finK_ret,fin3,R3_aiirrzai5zr.st,h1,h2,h3,h4,hc7]
   ·cases hF
    simp (maxSteps:=999999) (disch:=first|exact D (by decide)|exact K (by kernel_rfl)) only [E,EE,↓reduceIte,simprocAttr,xk B3 [2,2,2,2,2,2,2,2,2,2,2,2,2,2] .rt rfl,finK_norm,finK_ret,fin3,R3_aiirrzai5zr.st,h1,h2,h3,h4]
  ·cases hF
   simp (maxSteps:=999999) (disch:=first|exact D (by decide)|exact K (by kernel_rfl)) only [E,EE,↓reduceIte,simprocAttr,xk B3 [2,2,2,2,2,2,2,2,2,2,2,2,2,2] .rt rfl,finK_norm,finK_ret,fin3,R3_aiirrzai5zr.st,h1,h2]
 ·cases hF
  simp (maxSteps:=999999) (disch:=first|exact D (by decide)|exact K (by kernel_rfl)) only [E,EE,↓reduceIte,simprocAttr,xk B3 [2,2,2,2,2,2,2,2,2,2,2,2,2,2] .rt rfl,finK_norm,finK_ret,fin3,R3_aiirrzai5zr.st,h1]
noncomputable def f3_aiirrzai5zr_j5 (k : Nat) (x2 : List Int) (x9 : List T39) (x10 : Int) (x107 : Bool) (m3 m3_1 : Int) (m3_2 : List T65) (m3_3 : List T39) (m4 m4_1 m4_2 m4_3 m4_4 m8 m8_1 : Int) (m8_2 : List T65) (m35 : List T39) (m11 m11_1 m11_2 m11_3 m11_4 m11_5 m11_6 m11_7 m11_8 m11_9 : Int) (m11_10 : List Int) : Option R3_aiirrzai5zr :=
 Option.bind (f3_aiirrzai5zr_l6 k k x2 x9 x10 0 x9 ((List.length x9) : Int) 0 m3 m3_1 m3_2 m3_3 m4 m4_1 m4_2 m4_3 m4_4 m8 m8_1 m8_2 m35 m11 m11_1 m11_2 m11_3 m11_4 m11_5 m11_6 m11_7 m11_8 m11_9 m11_10) fun o1 =>
  match o1 with
  | .o0 v4 =>
   some (R3_aiirrzai5zr.o0 v4)
  | .o1 v5 v6 v7 v8 v9 v10 v11 v12 v13 v14 v15 v16 v17 v18 v19 v20 v21 v22 v23 v24 v25 v26 v27 v28 v29 v30 v31 v32 v33 v34 v35 v36 =>
   f3_aiirrzai5zr_j7 k v5 v6 v7 v8 v9 v10 v11 v12 v13 v14 v15 v16 v17 v18 v19 v20 v21 v22 v23 v24 v25 v26 v27 v28 v29 v30 v31 v32 v33 v34 v35 v36
  | .o2 _ _ _ _ _ _ _ _ _ _ _ _ _ _ _ _ _ _ _ _ _ _ _ _ _ _ _ _ _ _ _ =>
   none
  | .o3 v37 v38 v39 v40 v41 v42 v43 v44 v45 v46 v47 v48 v49 v50 v51 v52 v53 v54 v55 v56 v57 v58 v59 v60 v61 v62 v63 v64 v65 v66 v67 v68 =>
   f3_aiirrzai5zr_j8 k v37 v38 v39 v40 v41 v42 v43 v44 v45 v46 v47 v48 v49 v50 v51 v52 v53 v54 v55 v56 v57 v58 v59 v60 v61 v62 v63 v64 v65 v66 v67 v68
theorem f3_aiirrzai5zr_j5_ok (k : Nat) (x2 : List Int) (x9 : List T39) (x10 : Int) (x107 : Bool) (m3 m3_1 : Int) (m3_2 : List T65) (m3_3 : List T39) (m4 m4_1 m4_2 m4_3 m4_4 m8 m8_1 : Int) (m8_2 : List T65) (m35 : List T39) (m11 m11_1 m11_2 m11_3 m11_4 m11_5 m11_6 m11_7 m11_8 m11_9 : Int) (m11_10 : List Int) (r : R3_aiirrzai5zr) (hF : f3_aiirrzai5zr_j5 k x2 x9 x10 x107 m3 m3_1 m3_2 m3_3 m4 m4_1 m4_2 m4_3 m4_4 m8 m8_1 m8_2 m35 m11 m11_1 m11_2 m11_3 m11_4 m11_5 m11_6 m11_7 m11_8 m11_9 m11_10 = some r) : finK Try.prog Try.f3 0 (EX 3 k (nav B3 [2,2,2,2,2,2,2,2,2]) (⟨182,[(2,.sl 1 (rowsOf (encI .u8) x2)),(3,.ptr 3 0),(4,.ptr 4 0),(8,.ptr 8 0),(9,.sl 11 (rowsOf encT39 x9)),(10,.p (.int .i64 x10)),(11,.ptr 11 0),(107,.p (.bool x107))],[(3,.box 26 [.p (.int .i64 m3),.p (.int .u32 m3_1),.sl 4 (rowsOf encT65 m3_2),.sl 11 (rowsOf encT39 m3_3)]),(4,.box 28 [.p (.int .i64 m4),.p (.int .i64 m4_1),.p (.int .i64 m4_2),.p (.int .i64 m4_3),.p (.int .i64 m4_4)]),(8,.box 26 [.p (.int .i64 m8),.p (.int .u32 m8_1),.sl 4 (rowsOf encT65 m8_2),.own 35]),(35,.row true 11 39 (rowsOf encT39 m35)),(11,.box 39 [.p (.int .i64 m11),.p (.int .i64 m11_1),.p (.int .u32 m11_2),.p (.int .i64 m11_3),.p (.int .i64 m11_4),.p (.int .i64 m11_5),.p (.int .i64 m11_6),.p (.int .i64 m11_7),.p (.int .i64 m11_8),.p (.int .i64 m11_9),.sl 1 (rowsOf (encI .u8) m11_10)])]⟩ : St)) = some r.st := by
 unfold f3_aiirrzai5zr_j5 at hF
 obtain ⟨o1,h2,hF⟩ := bs hF
 have hc3 := f3_aiirrzai5zr_l6_ok k k x2 x9 x10 0 x9 ((List.length x9) : Int) 0 m3 m3_1 m3_2 m3_3 m4 m4_1 m4_2 m4_3 m4_4 m8 m8_1 m8_2 m35 m11 m11_1 m11_2 m11_3 m11_4 m11_5 m11_6 m11_7 m11_8 m11_9 m11_10 _ h2
 simp (maxSteps:=999999) (disch:=first|exact D (by decide)|exact K (by kernel_rfl)) only [E,EE,↓reduceIte,simprocAttr,xk B3 [2,2,2,2,2,2,2,2,2] .sq rfl,rg B3 [1,2,2,2,2,2,2,2,2,2] 14 false rfl,hr_3_14,xk B3 [2,2,2,2,2,2,2,2,2,2] .sq rfl,xk B3 [1,2,2,2,2,2,2,2,2,2,2] .sq rfl,rg B3 [1,1,2,2,2,2,2,2,2,2,2,2] 15 false rfl,hr_3_15,t_24,xk B3 [2,1,2,2,2,2,2,2,2,2,2,2] (.bk 0) rfl,xk B3 [2,2,1,2,2,2,2,2,2,2,2,2,2] .lp rfl,hh_3_16,hc_3_16]
 (try simp only [NM,EE] at hc3)
 rw [hc3 _ (by simp (maxSteps:=999999) (disch:=first|exact D (by decide)|exact K (by kernel_rfl)) only [E,EE,↓reduceIte,simprocAttr,hh_3_16,hc_3_16])]
 clear hc3
 cases o1 with
 | o0 v4 =>
  (try dsimp only at hF)
  cases hF
  simp (maxSteps:=999999) (disch:=first|exact D (by decide)|exact K (by kernel_rfl)) only [E,EE,↓reduceIte,simprocAttr,R3_aiirrzai5zr_l6.st,finK_norm,finK_ret,fin3,R3_aiirrzai5zr.st]
 | o1 v5 v6 v7 v8 v9 v10 v11 v12 v13 v14 v15 v16 v17 v18 v19 v20 v21 v22 v23 v24 v25 v26 v27 v28 v29 v30 v31 v32 v33 v34 v35 v36 =>
  (try dsimp only at hF)
  have hJ := f3_aiirrzai5zr_j7_ok k v5 v6 v7 v8 v9 v10 v11 v12 v13 v14 v15 v16 v17 v18 v19 v20 v21 v22 v23 v24 v25 v26 v27 v28 v29 v30 v31 v32 v33 v34 v35 v36 _ hF
  simp (maxSteps:=999999) (disch:=first|exact D (by decide)|exact K (by kernel_rfl)) only [E,EE,↓reduceIte,simprocAttr,R3_aiirrzai5zr_l6.st]
  try simp only [NM,EE] at hJ
  exact hJ
 | o2 _ _ _ _ _ _ _ _ _ _ _ _ _ _ _ _ _ _ _ _ _ _ _ _ _ _ _ _ _ _ _ =>
  (try dsimp only at hF)
  cases hF
 | o3 v37 v38 v39 v40 v41 v42 v43 v44 v45 v46 v47 v48 v49 v50 v51 v52 v53 v54 v55 v56 v57 v58 v59 v60 v61 v62 v63 v64 v65 v66 v67 v68 =>
  (try dsimp only at hF)
  have hJ := f3_aiirrzai5zr_j8_ok k v37 v38 v39 v40 v41 v42 v43 v44 v45 v46 v47 v48 v49 v50 v51 v52 v53 v54 v55 v56 v57 v58 v59 v60 v61 v62 v63 v64 v65 v66 v67 v68 _ hF
  simp (maxSteps:=999999) (disch:=first|exact D (by decide)|exact K (by kernel_rfl)) only [E,EE,↓reduceIte,simprocAttr,R3_aiirrzai5zr_l6.st]
  try simp only [NM,EE] at hJ
  exact hJ
noncomputable def f3_aiirrzai5zr_j4 (k : Nat) (x2 : List Int) (x9 : List T39) (x10 : Int) (x96 : Bool) (m3 m3_1 : Int) (m3_2 : List T65) (m3_3 : List T39) (m4 m4_1 m4_2 m4_3 m4_4 m8 m8_1 : Int) (m8_2 : List T65) (m35 : List T39) (m11 m11_1 m11_2 m11_3 m11_4 m11_5 m11_6 m11_7 m11_8 m11_9 : Int) (m11_10 : List Int) : Option R3_aiirrzai5zr :=
 cond ((m3_1 == 4294967295))
  (
   Option.bind (f12_aiirrzii k m8 m8_1 m8_2 m35 x10 6) fun o2 =>
    match o2 with
    | .o0 v5 =>
     cond (v5)
      (some (R3_aiirrzai5zr.o0 (((List.length x9) : Int) == 0)))
      (some (R3_aiirrzai5zr.o0 false)))
  (f3_aiirrzai5zr_j5 k x2 x9 x10 false m3 m3_1 m3_2 m3_3 m4 m4_1 m4_2 m4_3 m4_4 m8 m8_1 m8_2 m35 m11 m11_1 m11_2 m11_3 m11_4 m11_5 m11_6 m11_7 m11_8 m11_9 m11_10)
theorem f3_aiirrzai5zr_j4_ok (k : Nat) (x2 : List Int) (x9 : List T39) (x10 : Int) (x96 : Bool) (m3 m3_1 : Int) (m3_2 : List T65) (m3_3 : List T39) (m4 m4_1 m4_2 m4_3 m4_4 m8 m8_1 : Int) (m8_2 : List T65) (m35 : List T39) (m11 m11_1 m11_2 m11_3 m11_4 m11_5 m11_6 m11_7 m11_8 m11_9 : Int) (m11_10 : List Int) (r : R3_aiirrzai5zr) (hF : f3_aiirrzai5zr_j4 k x2 x9 x10 x96 m3 m3_1 m3_2 m3_3 m4 m4_1 m4_2 m4_3 m4_4 m8 m8_1 m8_2 m35 m11 m11_1 m11_2 m11_3 m11_4 m11_5 m11_6 m11_7 m11_8 m11_9 m11_10 = some r) : finK Try.prog Try.f3 0 (EX 3 k (nav B3 [2,2,2,2,2,2,2,2]) (⟨182,[(2,.sl 1 (rowsOf (encI .u8) x2)),(3,.ptr 3 0),(4,.ptr 4 0),(8,.ptr 8 0),(9,.sl 11 (rowsOf encT39 x9)),(10,.p (.int .i64 x10)),(11,.ptr 11 0),(96,.p (.bool x96))],[(3,.box 26 [.p (.int .i64 m3),.p (.int .u32 m3_1),.sl 4 (rowsOf encT65 m3_2),.sl 11 (rowsOf encT39 m3_3)]),(4,.box 28 [.p (.int .i64 m4),.p (.int .i64 m4_1),.p (.int .i64 m4_2),.p (.int .i64 m4_3),.p (.int .i64 m4_4)]),(8,.box 26 [.p (.int .i64 m8),.p (.int .u32 m8_1),.sl 4 (rowsOf encT65 m8_2),.own 35]),(35,.row true 11 39 (rowsOf encT39 m35)),(11,.box 39 [.p (.int .i64 m11),.p (.int .i64 m11_1),.p (.int .u32 m11_2),.p (.int .i64 m11_3),.p (.int .i64 m11_4),.p (.int .i64 m11_5),.p (.int .i64 m11_6),.p (.int .i64 m11_7),.p (.int .i64 m11_8),.p (.int .i64 m11_9),.sl 1 (rowsOf (encI .u8) m11_10)])]⟩ : St)) = some r.st := by
 unfold f3_aiirrzai5zr_j4 at hF
 simp (maxSteps:=999999) (disch:=first|exact D (by decide)|exact K (by kernel_rfl)) only [E,EE,↓reduceIte,simprocAttr,xk B3 [2,2,2,2,2,2,2,2] .sq rfl,xk B3 [1,2,2,2,2,2,2,2,2] .sq rfl,rg B3 [1,1,2,2,2,2,2,2,2,2] 12 false rfl,hr_3_12,fieldAddrV,t_26,t_22,xk B3 [2,1,2,2,2,2,2,2,2,2] (.cd 107) rfl]
 rcases cond_some hF with ⟨h1,hF⟩ | ⟨h1,hF⟩
 ·obtain ⟨o2,h3,hF⟩ := bs hF
  have hc4 := f12_aiirrzii_ok k m8 m8_1 m8_2 m35 x10 6 _ h3
  cases o2 with
  | o0 v5 =>
   (try dsimp only at hF)
   (try simp only [NM,EE,R12_aiirrzii.st] at hc4)
   simp (maxSteps:=999999) (disch:=first|exact D (by decide)|exact K (by kernel_rfl)) only [E,EE,↓reduceIte,simprocAttr,xk B3 [2,2,1,2,2,2,2,2,2,2,2] .sq rfl,rg B3 [1,2,2,1,2,2,2,2,2,2,2,2] 13 false rfl,hr_3_13,t_26,callStep,CL,gv,List.contains,h1,hc4]
   rcases cond_some hF with ⟨h6,hF⟩ | ⟨h6,hF⟩
   ·cases hF
    simp (maxSteps:=999999) (disch:=first|exact D (by decide)|exact K (by kernel_rfl)) only [E,EE,↓reduceIte,simprocAttr,t_24,xk B3 [2,2,2,1,2,2,2,2,2,2,2,2] .rt rfl,finK_norm,finK_ret,fin3,R3_aiirrzai5zr.st,h1,hc4,h6]
   ·cases hF
    simp (maxSteps:=999999) (disch:=first|exact D (by decide)|exact K (by kernel_rfl)) only [E,EE,↓reduceIte,simprocAttr,xk B3 [2,2,2,1,2,2,2,2,2,2,2,2] .rt rfl,finK_norm,finK_ret,fin3,R3_aiirrzai5zr.st,h1,hc4,h6]
 ·have hJ := f3_aiirrzai5zr_j5_ok k x2 x9 x10 false m3 m3_1 m3_2 m3_3 m4 m4_1 m4_2 m4_3 m4_4 m8 m8_1 m8_2 m35 m11 m11_1 m11_2 m11_3 m11_4 m11_5 m11_6 m11_7 m11_8 m11_9 m11_10 _ hF
  simp (maxSteps:=999999) (disch:=first|exact D (by decide)|exact K (by kernel_rfl)) only [E,EE,↓reduceIte,simprocAttr,xk B3 [3,2,1,2,2,2,2,2,2,2,2] .sk rfl,h1]
  try simp only [NM,EE] at hJ
  exact hJ
noncomputable def f3_aiirrzai5zr_j3 (k : Nat) (x2 : List Int) (x7 : Int) (x9 : List T39) (x10 : Int) (x41 : Bool) (m3 m3_1 : Int) (m3_2 : List T65) (m3_3 : List T39) (m4 m4_1 m4_2 m4_3 m4_4 m8 m8_1 : Int) (m8_2 : List T65) (m35 : List T39) : Option R3_aiirrzai5zr :=
 cond ((decide (m4 < 1)))
  (
   Option.bind (f12_aiirrzii k m8 m8_1 m8_2 m35 x10 2) fun o2 =>
    match o2 with
    | .o0 v5 =>
     cond (v5)
      (some (R3_aiirrzai5zr.o0 (((List.length x9) : Int) == 0)))
      (some (R3_aiirrzai5zr.o0 false)))
  (
   cond ((decide (m4 > 6)))
    (
     Option.bind (f12_aiirrzii k m8 m8_1 m8_2 m35 x10 2) fun o8 =>
      match o8 with
      | .o0 v11 =>
       cond (v11)
        (some (R3_aiirrzai5zr.o0 (((List.length x9) : Int) == 0)))
        (some (R3_aiirrzai5zr.o0 false)))
    (
     cond ((m4 == m3))
      (
       Option.bind (f12_aiirrzii k m8 m8_1 m8_2 m35 x10 2) fun o14 =>
        match o14 with
        | .o0 v17 =>
         cond (v17)
          (some (R3_aiirrzai5zr.o0 (((List.length x9) : Int) == 0)))
          (some (R3_aiirrzai5zr.o0 false)))
      (
       cond ((decide (m4_4 < 1)))
        (
         Option.bind (f12_aiirrzii k m8 m8_1 m8_2 m35 x10 2) fun o20 =>
          match o20 with
          | .o0 v23 =>
           cond (v23)
            (some (R3_aiirrzai5zr.o0 (((List.length x9) : Int) == 0)))
            (some (R3_aiirrzai5zr.o0 false)))
        (
         cond ((decide (m4_4 > 400)))
          (
           Option.bind (f12_aiirrzii k m8 m8_1 m8_2 m35 x10 2) fun o26 =>
            match o26 with
            | .o0 v29 =>
             cond (v29)
              (some (R3_aiirrzai5zr.o0 (((List.length x9) : Int) == 0)))
              (some (R3_aiirrzai5zr.o0 false)))
          (
           Option.bind (f13_ai10rz k m3 m4 m3_1 x7 m4_1 m4_2 0 m4_3 0 ((List.length x2) : Int) x2) fun o31 =>
            match o31 with
            | .o0 v34 =>
             cond ((!v34))
              (
               Option.bind (f12_aiirrzii k m8 m8_1 m8_2 m35 x10 2) fun o36 =>
                match o36 with
                | .o0 v39 =>
                 cond (v39)
                  (some (R3_aiirrzai5zr.o0 (((List.length x9) : Int) == 0)))
                  (some (R3_aiirrzai5zr.o0 false)))
              (f3_aiirrzai5zr_j4 k x2 x9 x10 false m3 m3_1 m3_2 m3_3 m4 m4_1 m4_2 m4_3 m4_4 m8 m8_1 m8_2 m35 m3 m4 m3_1 x7 m4_1 m4_2 0 m4_3 0 ((List.length x2) : Int) x2))))))
theorem f3_aiirrzai5zr_j3_ok (k : Nat) (x2 : List Int) (x7 : Int) (x9 : List T39) (x10 : Int) (x41 : Bool) (m3 m3_1 : Int) (m3_2 : List T65) (m3_3 : List T39) (m4 m4_1 m4_2 m4_3 m4_4 m8 m8_1 : Int) (m8_2 : List T65) (m35 : List T39) (r : R3_aiirrzai5zr) (hF : f3_aiirrzai5zr_j3 k x2 x7 x9 x10 x41 m3 m3_1 m3_2 m3_3 m4 m4_1 m4_2 m4_3 m4_4 m8 m8_1 m8_2 m35 = some r) : finK Try.prog Try.f3 0 (EX 3 k (nav B3 [2,2,2,2,2,2]) (⟨182,[(2,.sl 1 (rowsOf (encI .u8) x2)),(3,.ptr 3 0),(4,.ptr 4 0),(7,.p (.int .i64 x7)),(8,.ptr 8 0),(9,.sl 11 (rowsOf encT39 x9)),(10,.p (.int .i64 x10)),(41,.p (.bool x41))],[(3,.box 26 [.p (.int .i64 m3),.p (.int .u32 m3_1),.sl 4 (rowsOf encT65 m3_2),.sl 11 (rowsOf encT39 m3_3)]),(4,.box 28 [.p (.int .i64 m4),.p (.int .i64 m4_1),.p (.int .i64 m4_2),.p (.int .i64 m4_3),.p (.int .i64 m4_4)]),(8,.box 26 [.p (.int .i64 m8),.p (.int .u32 m8_1),.sl 4 (rowsOf encT65 m8_2),.own 35]),(35,.row true 11 39 (rowsOf encT39 m35))]⟩ : St)) = some r.st := by
 unfold f3_aiirrzai5zr_j3 at hF
 simp (maxSteps:=999999) (disch:=first|exact D (by decide)|exact K (by kernel_rfl)) only [E,EE,↓reduceIte,simprocAttr,xk B3 [2,2,2,2,2,2] .sq rfl,rg B3 [1,2,2,2,2,2,2] 9 false rfl,hr_3_9,fieldAddrV,t_26,t_3,t_28,t_22,t_29,bl_39,t_39,xk B3 [2,2,2,2,2,2,2] .sq rfl,xk B3 [1,2,2,2,2,2,2,2] .sq rfl,rg B3 [1,1,2,2,2,2,2,2,2] 10 false rfl,hr_3_10]
 rcases cond_some hF with ⟨h1,hF⟩ | ⟨h1,hF⟩
 ·obtain ⟨o2,h3,hF⟩ := bs hF
  have hc4 := f12_aiirrzii_ok k m8 m8_1 m8_2 m35 x10 2 _ h3
  cases o2 with
  | o0 v5 =>
   (try dsimp only at hF)
   (try simp only [NM,EE,R12_aiirrzii.st] at hc4)
   simp (maxSteps:=999999) (disch:=first|exact D (by decide)|exact K (by kernel_rfl)) only [E,EE,↓reduceIte,simprocAttr,xk B3 [2,1,2,2,2,2,2,2,2] (.cd 96) rfl,xk B3 [2,2,1,2,2,2,2,2,2,2] .sq rfl,rg B3 [1,2,2,1,2,2,2,2,2,2,2] 11 false rfl,hr_3_11,t_26,callStep,CL,gv,List.contains,h1,hc4]
   rcases cond_some hF with ⟨h6,hF⟩ | ⟨h6,hF⟩
   ·cases hF
    simp (maxSteps:=999999) (disch:=first|exact D (by decide)|exact K (by kernel_rfl)) only [E,EE,↓reduceIte,simprocAttr,t_24,xk B3 [2,2,2,1,2,2,2,2,2,2,2] .rt rfl,finK_norm,finK_ret,fin3,R3_aiirrzai5zr.st,h1,hc4,h6]
   ·cases hF
    simp (maxSteps:=999999) (disch:=first|exact D (by decide)|exact K (by kernel_rfl)) only [E,EE,↓reduceIte,simprocAttr,xk B3 [2,2,2,1,2,2,2,2,2,2,2] .rt rfl,finK_norm,finK_ret,fin3,R3_aiirrzai5zr.st,h1,hc4,h6]
 ·simp (maxSteps:=999999) (disch:=first|exact D (by decide)|exact K (by kernel_rfl)) only [E,EE,↓reduceIte,simprocAttr,fieldAddrV,t_28,t_3,h1]
  rcases cond_some hF with ⟨h7,hF⟩ | ⟨h7,hF⟩
  ·obtain ⟨o8,h9,hF⟩ := bs hF
   have hc10 := f12_aiirrzii_ok k m8 m8_1 m8_2 m35 x10 2 _ h9
   cases o8 with
   | o0 v11 =>
    (try dsimp only at hF)
    (try simp only [NM,EE,R12_aiirrzii.st] at hc10)
    simp (maxSteps:=999999) (disch:=first|exact D (by decide)|exact K (by kernel_rfl)) only [E,EE,↓reduceIte,simprocAttr,xk B3 [2,1,2,2,2,2,2,2,2] (.cd 96) rfl,xk B3 [2,2,1,2,2,2,2,2,2,2] .sq rfl,rg B3 [1,2,2,1,2,2,2,2,2,2,2] 11 false rfl,hr_3_11,t_26,callStep,CL,gv,List.contains,h1,h7,hc10]
    rcases cond_some hF with ⟨h12,hF⟩ | ⟨h12,hF⟩
    ·cases hF
     simp (maxSteps:=999999) (disch:=first|exact D (by decide)|exact K (by kernel_rfl)) only [E,EE,↓reduceIte,simprocAttr,t_24,xk B3 [2,2,2,1,2,2,2,2,2,2,2] .rt rfl,finK_norm,finK_ret,fin3,R3_aiirrzai5zr.st,h1,h7,hc10,h12]
    ·cases hF
     simp (maxSteps:=999999) (disch:=first|exact D (by decide)|exact K (by kernel_rfl)) only [E,EE,↓reduceIte,simprocAttr,xk B3 [2,2,2,1,2,2,2,2,2,2,2] .rt rfl,finK_norm,finK_ret,fin3,R3_aiirrzai5zr.st,h1,h7,hc10,h12]
  ·simp (maxSteps:=999999) (disch:=first|exact D (by decide)|exact K (by kernel_rfl)) only [E,EE,↓reduceIte,simprocAttr,fieldAddrV,t_28,t_3,t_26,h1,h7]
   rcases cond_some hF with ⟨h13,hF⟩ | ⟨h13,hF⟩
   ·obtain ⟨o14,h15,hF⟩ := bs hF
    have hc16 := f12_aiirrzii_ok k m8 m8_1 m8_2 m35 x10 2 _ h15
    cases o14 with
    | o0 v17 =>
     (try dsimp only at hF)
     (try simp only [NM,EE,R12_aiirrzii.st] at hc16)
     simp (maxSteps:=999999) (disch:=first|exact D (by decide)|exact K (by kernel_rfl)) only [E,EE,↓reduceIte,simprocAttr,xk B3 [2,1,2,2,2,2,2,2,2] (.cd 96) rfl,xk B3 [2,2,1,2,2,2,2,2,2,2] .sq rfl,rg B3 [1,2,2,1,2,2,2,2,2,2,2] 11 false rfl,hr_3_11,t_26,callStep,CL,gv,List.contains,h1,h7,h13,hc16]
     rcases cond_some hF with ⟨h18,hF⟩ | ⟨h18,hF⟩
     ·cases hF
      simp (maxSteps:=999999) (disch:=first|exact D (by decide)|exact K (by kernel_rfl)) only [E,EE,↓reduceIte,simprocAttr,t_24,xk B3 [2,2,2,1,2,2,2,2,2,2,2] .rt rfl,finK_norm,finK_ret,fin3,R3_aiirrzai5zr.st,h1,h7,h13,hc16,h18]
     ·cases hF
      simp (maxSteps:=999999) (disch:=first|exact D (by decide)|exact K (by kernel_rfl)) only [E,EE,↓reduceIte,simprocAttr,xk B3 [2,2,2,1,2,2,2,2,2,2,2] .rt rfl,finK_norm,finK_ret,fin3,R3_aiirrzai5zr.st,h1,h7,h13,hc16,h18]
   ·simp (maxSteps:=999999) (disch:=first|exact D (by decide)|exact K (by kernel_rfl)) only [E,EE,↓reduceIte,simprocAttr,fieldAddrV,t_28,t_3,h1,h7,h13]
    rcases cond_some hF with ⟨h19,hF⟩ | ⟨h19,hF⟩
    ·obtain ⟨o20,h21,hF⟩ := bs hF
     have hc22 := f12_aiirrzii_ok k m8 m8_1 m8_2 m35 x10 2 _ h21
     cases o20 with
     | o0 v23 =>
      (try dsimp only at hF)
      (try simp only [NM,EE,R12_aiirrzii.st] at hc22)
      simp (maxSteps:=999999) (disch:=first|exact D (by decide)|exact K (by kernel_rfl)) only [E,EE,↓reduceIte,simprocAttr,xk B3 [2,1,2,2,2,2,2,2,2] (.cd 96) rfl,xk B3 [2,2,1,2,2,2,2,2,2,2] .sq rfl,rg B3 [1,2,2,1,2,2,2,2,2,2,2] 11 false rfl,hr_3_11,t_26,callStep,CL,gv,List.contains,h1,h7,h13,h19,hc22]
      rcases cond_some hF with ⟨h24,hF⟩ | ⟨h24,hF⟩
      ·cases hF
       simp (maxSteps:=999999) (disch:=first|exact D (by decide)|exact K (by kernel_rfl)) only [E,EE,↓reduceIte,simprocAttr,t_24,xk B3 [2,2,2,1,2,2,2,2,2,2,2] .rt rfl,finK_norm,finK_ret,fin3,R3_aiirrzai5zr.st,h1,h7,h13,h19,hc22,h24]
      ·cases hF
       simp (maxSteps:=999999) (disch:=first|exact D (by decide)|exact K (by kernel_rfl)) only [E,EE,↓reduceIte,simprocAttr,xk B3 [2,2,2,1,2,2,2,2,2,2,2] .rt rfl,finK_norm,finK_ret,fin3,R3_aiirrzai5zr.st,h1,h7,h13,h19,hc22,h24]
    ·simp (maxSteps:=999999) (disch:=first|exact D (by decide)|exact K (by kernel_rfl)) only [E,EE,↓reduceIte,simprocAttr,fieldAddrV,t_28,t_3,h1,h7,h13,h19]
     rcases cond_some hF with ⟨h25,hF⟩ | ⟨h25,hF⟩
     ·obtain ⟨o26,h27,hF⟩ := bs hF
      have hc28 := f12_aiirrzii_ok k m8 m8_1 m8_2 m35 x10 2 _ h27
      cases o26 with
      | o0 v29 =>
       (try dsimp only at hF)
       (try simp only [NM,EE,R12_aiirrzii.st] at hc28)
       simp (maxSteps:=999999) (disch:=first|exact D (by decide)|exact K (by kernel_rfl)) only [E,EE,↓reduceIte,simprocAttr,xk B3 [2,1,2,2,2,2,2,2,2] (.cd 96) rfl,xk B3 [2,2,1,2,2,2,2,2,2,2] .sq rfl,rg B3 [1,2,2,1,2,2,2,2,2,2,2] 11 false rfl,hr_3_11,t_26,callStep,CL,gv,List.contains,h1,h7,h13,h19,h25,hc28]
       rcases cond_some hF with ⟨h30,hF⟩ | ⟨h30,hF⟩
       ·cases hF
        simp (maxSteps:=999999) (disch:=first|exact D (by decide)|exact K (by kernel_rfl)) only [E,EE,↓reduceIte,simprocAttr,t_24,xk B3 [2,2,2,1,2,2,2,2,2,2,2] .rt rfl,finK_norm,finK_ret,fin3,R3_aiirrzai5zr.st,h1,h7,h13,h19,h25,hc28,h30]
       ·cases hF
        simp (maxSteps:=999999) (disch:=first|exact D (by decide)|exact K (by kernel_rfl)) only [E,EE,↓reduceIte,simprocAttr,xk B3 [2,2,2,1,2,2,2,2,2,2,2] .rt rfl,finK_norm,finK_ret,fin3,R3_aiirrzai5zr.st,h1,h7,h13,h19,h25,hc28,h30]
     ·obtain ⟨o31,h32,hF⟩ := bs hF
      have hc33 := f13_ai10rz_ok k m3 m4 m3_1 x7 m4_1 m4_2 0 m4_3 0 ((List.length x2) : Int) x2 _ h32
      cases o31 with
      | o0 v34 =>
       (try dsimp only at hF)
       (try simp only [NM,EE,R13_ai10rz.st] at hc33)
       simp (maxSteps:=999999) (disch:=first|exact D (by decide)|exact K (by kernel_rfl)) only [E,EE,↓reduceIte,simprocAttr,t_39,callStep,CL,gv,List.contains,xk B3 [2,1,2,2,2,2,2,2,2] (.cd 96) rfl,h1,h7,h13,h19,h25,hc33]
       rcases cond_some hF with ⟨h35,hF⟩ | ⟨h35,hF⟩
       ·obtain ⟨o36,h37,hF⟩ := bs hF
        have hc38 := f12_aiirrzii_ok k m8 m8_1 m8_2 m35 x10 2 _ h37
        cases o36 with
        | o0 v39 =>
         (try dsimp only at hF)
         (try simp only [NM,EE,R12_aiirrzii.st] at hc38)
         simp (maxSteps:=999999) (disch:=first|exact D (by decide)|exact K (by kernel_rfl)) only [E,EE,↓reduceIte,simprocAttr,xk B3 [2,2,1,2,2,2,2,2,2,2] .sq rfl,rg B3 [1,2,2,1,2,2,2,2,2,2,2] 11 false rfl,hr_3_11,t_26,callStep,CL,gv,List.contains,h1,h7,h13,h19,h25,hc33,h35,hc38]
         rcases cond_some hF with ⟨h40,hF⟩ | ⟨h40,hF⟩
         ·cases hF
          simp (maxSteps:=999999) (disch:=first|exact D (by decide)|exact K (by kernel_rfl)) only [E,EE,↓reduceIte,simprocAttr,t_24,xk B3 [2,2,2,1,2,2,2,2,2,2,2] .rt rfl,finK_norm,finK_ret,fin3,R3_aiirrzai5zr.st,h1,h7,h13,h19,h25,hc33,h35,hc38,h40]
         ·cases hF
          simp (maxSteps:=999999) (disch:=first|exact D (by decide)|exact K (by kernel_rfl)) only [E,EE,↓reduceIte,simprocAttr,xk B3 [2,2,2,1,2,2,2,2,2,2,2] .rt rfl,finK_norm,finK_ret,fin3,R3_aiirrzai5zr.st,h1,h7,h13,h19,h25,hc33,h35,hc38,h40]
       ·have hJ := f3_aiirrzai5zr_j4_ok k x2 x9 x10 false m3 m3_1 m3_2 m3_3 m4 m4_1 m4_2 m4_3 m4_4 m8 m8_1 m8_2 m35 m3 m4 m3_1 x7 m4_1 m4_2 0 m4_3 0 ((List.length x2) : Int) x2 _ hF
        simp (maxSteps:=999999) (disch:=first|exact D (by decide)|exact K (by kernel_rfl)) only [E,EE,↓reduceIte,simprocAttr,xk B3 [3,2,1,2,2,2,2,2,2,2] .sk rfl,h1,h7,h13,h19,h25,hc33,h35]
        try simp only [NM,EE] at hJ
        exact hJ
inductive R3_aiirrzai5zr_l12 where
 | o0 (y : Bool)
 | o1 (y : List Int) (y_1 y_2 y_3 y_4 : Int) (y_5 : Bool) (y_6 y_7 : Int) (y_8 : List T65) (y_9 : List T39) (y_10 y_11 y_12 y_13 y_14 y_15 y_16 : Int) (y_17 : List T65) (y_18 y_19 : List T39) (y_20 y_21 y_22 y_23 y_24 y_25 y_26 y_27 y_28 y_29 : Int) (y_30 : List Int)
 | o2 (y : List Int) (y_1 y_2 y_3 y_4 y_5 y_6 : Int) (y_7 : List T65) (y_8 : List T39) (y_9 y_10 y_11 y_12 y_13 y_14 y_15 : Int) (y_16 : List T65) (y_17 y_18 : List T39) (y_19 y_20 y_21 y_22 y_23 y_24 y_25 y_26 y_27 y_28 : Int) (y_29 : List Int)
 | o3 (y : List Int) (y_1 y_2 y_3 y_4 : Int) (y_5 : Bool) (y_6 y_7 : Int) (y_8 : List T65) (y_9 : List T39) (y_10 y_11 y_12 y_13 y_14 y_15 y_16 : Int) (y_17 : List T65) (y_18 y_19 : List T39) (y_20 y_21 y_22 y_23 y_24 y_25 y_26 y_27 y_28 y_29 : Int) (y_30 : List Int)
noncomputable def R3_aiirrzai5zr_l12.st : R3_aiirrzai5zr_l12 → Out × St
 | .o0 y => (.ret,(⟨182,[(6,.p (.bool y))],[]⟩ : St))
 | .o1 y y_1 y_2 y_3 y_4 y_5 y_6 y_7 y_8 y_9 y_10 y_11 y_12 y_13 y_14 y_15 y_16 y_17 y_18 y_19 y_20 y_21 y_22 y_23 y_24 y_25 y_26 y_27 y_28 y_29 y_30 => (.exit 0,(⟨182,[(2,.sl 1 (rowsOf (encI .u8) y)),(3,.ptr 30000 0),(4,.ptr 30001 0),(8,.ptr 30002 0),(9,.own 30005),(10,.p (.int .i64 y_1)),(11,.ptr 30006 0),(12,.p (.int .i64 y_2)),(116,.own 30005),(117,.p (.int .i64 y_3)),(118,.p (.int .i64 y_4)),(148,.p (.bool y_5))],[(30000,.box 26 [.p (.int .i64 y_6),.p (.int .u32 y_7),.sl 4 (rowsOf encT65 y_8),.sl 11 (rowsOf encT39 y_9)]),(30001,.box 28 [.p (.int .i64 y_10),.p (.int .i64 y_11),.p (.int .i64 y_12),.p (.int .i64 y_13),.p (.int .i64 y_14)]),(30002,.box 26 [.p (.int .i64 y_15),.p (.int .u32 y_16),.own 30003,.own 30004]),(30003,.row true 4 65 (rowsOf encT65 y_17)),(30004,.row true 11 39 (rowsOf encT39 y_18)),(30005,.row true 11 39 (rowsOf encT39 y_19)),(30006,.box 39 [.p (.int .i64 y_20),.p (.int .i64 y_21),.p (.int .u32 y_22),.p (.int .i64 y_23),.p (.int .i64 y_24),.p (.int .i64 y_25),.p (.int .i64 y_26),.p (.int .i64 y_27),.p (.int .i64 y_28),.p (.int .i64 y_29),.sl 1 (rowsOf (encI .u8) y_30)])]⟩ : St))
 | .o2 y y_1 y_2 y_3 y_4 y_5 y_6 y_7 y_8 y_9 y_10 y_11 y_12 y_13 y_14 y_15 y_16 y_17 y_18 y_19 y_20 y_21 y_22 y_23 y_24 y_25 y_26 y_27 y_28 y_29 => (.norm,(⟨182,[(2,.sl 1 (rowsOf (encI .u8) y)),(3,.ptr 30000 0),(4,.ptr 30001 0),(8,.ptr 30002 0),(9,.own 30005),(10,.p (.int .i64 y_1)),(11,.ptr 30006 0),(12,.p (.int .i64 y_2)),(116,.own 30005),(117,.p (.int .i64 y_3)),(118,.p (.int .i64 y_4))],[(30000,.box 26 [.p (.int .i64 y_5),.p (.int .u32 y_6),.sl 4 (rowsOf encT65 y_7),.sl 11 (rowsOf encT39 y_8)]),(30001,.box 28 [.p (.int .i64 y_9),.p (.int .i64 y_10),.p (.int .i64 y_11),.p (.int .i64 y_12),.p (.int .i64 y_13)]),(30002,.box 26 [.p (.int .i64 y_14),.p (.int .u32 y_15),.own 30003,.own 30004]),(30003,.row true 4 65 (rowsOf encT65 y_16)),(30004,.row true 11 39 (rowsOf encT39 y_17)),(30005,.row true 11 39 (rowsOf encT39 y_18)),(30006,.box 39 [.p (.int .i64 y_19),.p (.int .i64 y_20),.p (.int .u32 y_21),.p (.int .i64 y_22),.p (.int .i64 y_23),.p (.int .i64 y_24),.p (.int .i64 y_25),.p (.int .i64 y_26),.p (.int .i64 y_27),.p (.int .i64 y_28),.sl 1 (rowsOf (encI .u8) y_29)])]⟩ : St))
 | .o3 y y_1 y_2 y_3 y_4 y_5 y_6 y_7 y_8 y_9 y_10 y_11 y_12 y_13 y_14 y_15 y_16 y_17 y_18 y_19 y_20 y_21 y_22 y_23 y_24 y_25 y_26 y_27 y_28 y_29 y_30 => (.exit 0,(⟨182,[(2,.sl 1 (rowsOf (encI .u8) y)),(3,.ptr 30000 0),(4,.ptr 30001 0),(8,.ptr 30002 0),(9,.own 30005),(10,.p (.int .i64 y_1)),(11,.ptr 30006 0),(12,.p (.int .i64 y_2)),(116,.own 30005),(117,.p (.int .i64 y_3)),(118,.p (.int .i64 y_4)),(119,.p (.bool y_5))],[(30000,.box 26 [.p (.int .i64 y_6),.p (.int .u32 y_7),.sl 4 (rowsOf encT65 y_8),.sl 11 (rowsOf encT39 y_9)]),(30001,.box 28 [.p (.int .i64 y_10),.p (.int .i64 y_11),.p (.int .i64 y_12),.p (.int .i64 y_13),.p (.int .i64 y_14)]),(30002,.box 26 [.p (.int .i64 y_15),.p (.int .u32 y_16),.own 30003,.own 30004]),(30003,.row true 4 65 (rowsOf encT65 y_17)),(30004,.row true 11 39 (rowsOf encT39 y_18)),(30005,.row true 11 39 (rowsOf encT39 y_19)),(30006,.box 39 [.p (.int .i64 y_20),.p (.int .i64 y_21),.p (.int .u32 y_22),.p (.int .i64 y_23),.p (.int .i64 y_24),.p (.int .i64 y_25),.p (.int .i64 y_26),.p (.int .i64 y_27),.p (.int .i64 y_28),.p (.int .i64 y_29),.sl 1 (rowsOf (encI .u8) y_30)])]⟩ : St))
noncomputable def f3_aiirrzai5zr_l12_j3 (k : Nat) (x2 : List Int) (x10 x12 x117 x118 : Int) (x148 : Bool) (h0_ h0__1 : Int) (h0__2 : List T65) (h0__3 : List T39) (h1_ h1__1 h1__2 h1__3 h1__4 h2_ h2__1 : Int) (h3_ : List T65) (h4_ h5_ : List T39) (h6_ h6__1 h6__2 h6__3 h6__4 h6__5 h6__6 h6__7 h6__8 h6__9 : Int) (h6__10 : List Int) : Option R3_aiirrzai5zr_l12 :=
 some (R3_aiirrzai5zr_l12.o2 x2 x10 x12 x117 (IntKind.i64.wrap (x118 + (1 : Int))) h0_ h0__1 h0__2 h0__3 h1_ h1__1 h1__2 h1__3 h1__4 h2_ h2__1 h3_ h4_ h5_ h6_ h6__1 h6__2 h6__3 h6__4 h6__5 h6__6 h6__7 h6__8 h6__9 h6__10)
theorem f3_aiirrzai5zr_l12_j3_ok (k : Nat) (x2 : List Int) (x10 x12 x117 x118 : Int) (x148 : Bool) (h0_ h0__1 : Int) (h0__2 : List T65) (h0__3 : List T39) (h1_ h1__1 h1__2 h1__3 h1__4 h2_ h2__1 : Int) (h3_ : List T65) (h4_ h5_ : List T39) (h6_ h6__1 h6__2 h6__3 h6__4 h6__5 h6__6 h6__7 h6__8 h6__9 : Int) (h6__10 : List Int) (r : R3_aiirrzai5zr_l12) (hF : f3_aiirrzai5zr_l12_j3 k x2 x10 x12 x117 x118 x148 h0_ h0__1 h0__2 h0__3 h1_ h1__1 h1__2 h1__3 h1__4 h2_ h2__1 h3_ h4_ h5_ h6_ h6__1 h6__2 h6__3 h6__4 h6__5 h6__6 h6__7 h6__8 h6__9 h6__10 = some r) : EX 3 k (nav B3 [2,2,2,1,2,2,1,2,2,2,2,2,2,2,2,2,2]) (⟨182,[(2,.sl 1 (rowsOf (encI .u8) x2)),(3,.ptr 30000 0),(4,.ptr 30001 0),(8,.ptr 30002 0),(9,.own 30005),(10,.p (.int .i64 x10)),(11,.ptr 30006 0),(12,.p (.int .i64 x12)),(116,.own 30005),(117,.p (.int .i64 x117)),(118,.p (.int .i64 x118)),(148,.p (.bool x148))],[(30000,.box 26 [.p (.int .i64 h0_),.p (.int .u32 h0__1),.sl 4 (rowsOf encT65 h0__2),.sl 11 (rowsOf encT39 h0__3)]),(30001,.box 28 [.p (.int .i64 h1_),.p (.int .i64 h1__1),.p (.int .i64 h1__2),.p (.int .i64 h1__3),.p (.int .i64 h1__4)]),(30002,.box 26 [.p (.int .i64 h2_),.p (.int .u32 h2__1),.own 30003,.own 30004]),(30003,.row true 4 65 (rowsOf encT65 h3_)),(30004,.row true 11 39 (rowsOf encT39 h4_)),(30005,.row true 11 39 (rowsOf encT39 h5_)),(30006,.box 39 [.p (.int .i64 h6_),.p (.int .i64 h6__1),.p (.int .u32 h6__2),.p (.int .i64 h6__3),.p (.int .i64 h6__4),.p (.int .i64 h6__5),.p (.int .i64 h6__6),.p (.int .i64 h6__7),.p (.int .i64 h6__8),.p (.int .i64 h6__9),.sl 1 (rowsOf (encI .u8) h6__10)])]⟩ : St) = some r.st := by
 unfold f3_aiirrzai5zr_l12_j3 at hF
 cases hF
 simp (maxSteps:=999999) (disch:=first|exact D (by decide)|exact K (by kernel_rfl)) only [E,EE,↓reduceIte,simprocAttr,rg B3 [2,2,2,1,2,2,1,2,2,2,2,2,2,2,2,2,2] 24 false rfl,hr_3_24,R3_aiirrzai5zr_l12.st]
noncomputable def f3_aiirrzai5zr_l12_j2 (k : Nat) (x2 : List Int) (x10 x12 x117 x118 : Int) (x139 : Bool) (h0_ h0__1 : Int) (h0__2 : List T65) (h0__3 : List T39) (h1_ h1__1 h1__2 h1__3 h1__4 h2_ h2__1 : Int) (h3_ : List T65) (h4_ h5_ : List T39) (h6_ h6__1 h6__2 h6__3 h6__4 h6__5 h6__6 h6__7 h6__8 h6__9 : Int) (h6__10 : List Int) (m15 m15_1 m15_2 m15_3 m15_4 m15_5 m15_6 m15_7 m15_8 m15_9 : Int) (m15_10 : List Int) : Option R3_aiirrzai5zr_l12 :=
 cond (((IntKind.i64.wrap (x12 + ((List.length m15_10) : Int))) == ((List.length x2) : Int)))
  (some (R3_aiirrzai5zr_l12.o1 x2 x10 (IntKind.i64.wrap (x12 + ((List.length m15_10) : Int))) x117 x118 true h0_ h0__1 h0__2 h0__3 h1_ h1__1 h1__2 h1__3 h1__4 h2_ h2__1 h3_ h4_ h5_ h6_ h6__1 h6__2 h6__3 h6__4 h6__5 h6__6 h6__7 h6__8 h6__9 h6__10))
  (f3_aiirrzai5zr_l12_j3 k x2 x10 (IntKind.i64.wrap (x12 + ((List.length m15_10) : Int))) x117 x118 false h0_ h0__1 h0__2 h0__3 h1_ h1__1 h1__2 h1__3 h1__4 h2_ h2__1 h3_ h4_ h5_ h6_ h6__1 h6__2 h6__3 h6__4 h6__5 h6__6 h6__7 h6__8 h6__9 h6__10)
theorem f3_aiirrzai5zr_l12_j2_ok (k : Nat) (x2 : List Int) (x10 x12 x117 x118 : Int) (x139 : Bool) (h0_ h0__1 : Int) (h0__2 : List T65) (h0__3 : List T39) (h1_ h1__1 h1__2 h1__3 h1__4 h2_ h2__1 : Int) (h3_ : List T65) (h4_ h5_ : List T39) (h6_ h6__1 h6__2 h6__3 h6__4 h6__5 h6__6 h6__7 h6__8 h6__9 : Int) (h6__10 : List Int) (m15 m15_1 m15_2 m15_3 m15_4 m15_5 m15_6 m15_7 m15_8 m15_9 : Int) (m15_10 : List Int) (r : R3_aiirrzai5zr_l12) (hF : f3_aiirrzai5zr_l12_j2 k x2 x10 x12 x117 x118 x139 h0_ h0__1 h0__2 h0__3 h1_ h1__1 h1__2 h1__3 h1__4 h2_ h2__1 h3_ h4_ h5_ h6_ h6__1 h6__2 h6__3 h6__4 h6__5 h6__6 h6__7 h6__8 h6__9 h6__10 m15 m15_1 m15_2 m15_3 m15_4 m15_5 m15_6 m15_7 m15_8 m15_9 m15_10 = some r) : SQ 3 k (nav B3 [2,2,2,1,2,2,1,2,2,2,2,2,2,2,2,2,2]) (blockK 1 (EX 3 k (nav B3 [2,2,2,2,2,1,2,2,1,2,2,1,2,2,2,2,2,2,2,2,2,2]) (⟨182,[(2,.sl 1 (rowsOf (encI .u8) x2)),(3,.ptr 30000 0),(4,.ptr 30001 0),(8,.ptr 30002 0),(9,.own 30005),(10,.p (.int .i64 x10)),(11,.ptr 30006 0),(12,.p (.int .i64 x12)),(15,.ptr 15 0),(116,.own 30005),(117,.p (.int .i64 x117)),(118,.p (.int .i64 x118)),(139,.p (.bool x139))],[(30000,.box 26 [.p (.int .i64 h0_),.p (.int .u32 h0__1),.sl 4 (rowsOf encT65 h0__2),.sl 11 (rowsOf encT39 h0__3)]),(30001,.box 28 [.p (.int .i64 h1_),.p (.int .i64 h1__1),.p (.int .i64 h1__2),.p (.int .i64 h1__3),.p (.int .i64 h1__4)]),(30002,.box 26 [.p (.int .i64 h2_),.p (.int .u32 h2__1),.own 30003,.own 30004]),(30003,.row true 4 65 (rowsOf encT65 h3_)),(30004,.row true 11 39 (rowsOf encT39 h4_)),(30005,.row true 11 39 (rowsOf encT39 h5_)),(30006,.box 39 [.p (.int .i64 h6_),.p (.int .i64 h6__1),.p (.int .u32 h6__2),.p (.int .i64 h6__3),.p (.int .i64 h6__4),.p (.int .i64 h6__5),.p (.int .i64 h6__6),.p (.int .i64 h6__7),.p (.int .i64 h6__8),.p (.int .i64 h6__9),.sl 1 (rowsOf (encI .u8) h6__10)]),(15,.box 39 [.p (.int .i64 m15),.p (.int .i64 m15_1),.p (.int .u32 m15_2),.p (.int .i64 m15_3),.p (.int .i64 m15_4),.p (.int .i64 m15_5),.p (.int .i64 m15_6),.p (.int .i64 m15_7),.p (.int .i64 m15_8),.p (.int .i64 m15_9),.sl 1 (rowsOf (encI .u8) m15_10)])]⟩ : St))) = some r.st := by
 unfold f3_aiirrzai5zr_l12_j2 at hF
 simp (maxSteps:=999999) (disch:=first|exact D (by decide)|exact K (by kernel_rfl)) only [E,EE,↓reduceIte,simprocAttr,xk B3 [2,2,2,2,2,1,2,2,1,2,2,1,2,2,2,2,2,2,2,2,2,2] .sq rfl,rg B3 [1,2,2,2,2,2,1,2,2,1,2,2,1,2,2,2,2,2,2,2,2,2,2] 22 false rfl,hr_3_22,fieldAddrV,t_39,t_29,xk B3 [2,2,2,2,2,2,1,2,2,1,2,2,1,2,2,2,2,2,2,2,2,2,2] .sq rfl,rg B3 [1,2,2,2,2,2,2,1,2,2,1,2,2,1,2,2,2,2,2,2,2,2,2,2] 23 false rfl,hr_3_23,xk B3 [2,2,2,2,2,2,2,1,2,2,1,2,2,1,2,2,2,2,2,2,2,2,2,2] (.cd 148) rfl]
 rcases cond_some hF with ⟨h1,hF⟩ | ⟨h1,hF⟩
 ·cases hF
  simp (maxSteps:=999999) (disch:=first|exact D (by decide)|exact K (by kernel_rfl)) only [E,EE,↓reduceIte,simprocAttr,xk B3 [2,2,2,2,2,2,2,2,1,2,2,1,2,2,1,2,2,2,2,2,2,2,2,2,2] (.ex 0) rfl,R3_aiirrzai5zr_l12.st,h1]
 ·have hJ := f3_aiirrzai5zr_l12_j3_ok k x2 x10 (IntKind.i64.wrap (x12 + ((List.length m15_10) : Int))) x117 x118 false h0_ h0__1 h0__2 h0__3 h1_ h1__1 h1__2 h1__3 h1__4 h2_ h2__1 h3_ h4_ h5_ h6_ h6__1 h6__2 h6__3 h6__4 h6__5 h6__6 h6__7 h6__8 h6__9 h6__10 _ hF
  simp (maxSteps:=999999) (disch:=first|exact D (by decide)|exact K (by kernel_rfl)) only [E,EE,↓reduceIte,simprocAttr,xk B3 [3,2,2,2,2,2,2,2,1,2,2,1,2,2,1,2,2,2,2,2,2,2,2,2,2] .sk rfl,h1]
  try simp only [NM,EE] at hJ
  exact hJ
noncomputable def f3_aiirrzai5zr_l12_j1 (k : Nat) (x2 : List Int) (x10 x12 x117 x118 : Int) (x119 : Bool) (h0_ h0__1 : Int) (h0__2 : List T65) (h0__3 : List T39) (h1_ h1__1 h1__2 h1__3 h1__4 h2_ h2__1 : Int) (h3_ : List T65) (h4_ h5_ : List T39) (h6_ h6__1 h6__2 h6__3 h6__4 h6__5 h6__6 h6__7 h6__8 h6__9 : Int) (h6__10 : List Int) : Option R3_aiirrzai5zr_l12 :=
 ifE ((0 : Int) ≤ x118) (
  ifE (x118 < ((List.length h5_) : Int)) (
   Option.bind (h5_[(Int.toNat x118)]?) fun v3 =>
    ifE ((0 : Int) ≤ x12) (
     ifE ((0 : Int) ≤ (if ((List.length x2) : Int) < (IntKind.i64.wrap (x12 + h1__4)) then ((List.length x2) : Int) else (IntKind.i64.wrap (x12 + h1__4)))) (
      ifE ((Int.toNat x12) ≤ (Int.toNat ((if ((List.length x2) : Int) < (IntKind.i64.wrap (x12 + h1__4)) then ((List.length x2) : Int) else (IntKind.i64.wrap (x12 + h1__4)))))) (
       ifE ((Int.toNat ((if ((List.length x2) : Int) < (IntKind.i64.wrap (x12 + h1__4)) then ((List.length x2) : Int) else (IntKind.i64.wrap (x12 + h1__4))))) ≤ (List.length x2)) (
        Option.bind (f14_ai10rzai10rz k v3.Source v3.Dest v3.Seq v3.Created v3.Lifetime v3.HopLimit v3.Hops v3.Priority v3.Offset v3.Total v3.Payload h6_ h6__1 h6__2 h6__3 h6__4 h6__5 h6__6 h6__7 x12 h6__9 ((List.drop (Int.toNat x12) ((List.take ((Int.toNat ((if ((List.length x2) : Int) < (IntKind.i64.wrap (x12 + h1__4)) then ((List.length x2) : Int) else (IntKind.i64.wrap (x12 + h1__4)))))) x2))))) fun o9 =>
         match o9 with
         | .o0 v12 =>
          cond ((!v12))
           (some (R3_aiirrzai5zr_l12.o0 false))
           (f3_aiirrzai5zr_l12_j2 k x2 x10 x12 x117 x118 false h0_ h0__1 h0__2 h0__3 h1_ h1__1 h1__2 h1__3 h1__4 h2_ h2__1 h3_ h4_ h5_ h6_ h6__1 h6__2 h6__3 h6__4 h6__5 h6__6 h6__7 h6__8 h6__9 h6__10 h6_ h6__1 h6__2 h6__3 h6__4 h6__5 h6__6 h6__7 x12 h6__9 ((List.drop (Int.toNat x12) ((List.take ((Int.toNat ((if ((List.length x2) : Int) < (IntKind.i64.wrap (x12 + h1__4)) then ((List.length x2) : Int) else (IntKind.i64.wrap (x12 + h1__4)))))) x2)))))))))))
theorem f3_aiirrzai5zr_l12_j1_ok (k : Nat) (x2 : List Int) (x10 x12 x117 x118 : Int) (x119 : Bool) (h0_ h0__1 : Int) (h0__2 : List T65) (h0__3 : List T39) (h1_ h1__1 h1__2 h1__3 h1__4 h2_ h2__1 : Int) (h3_ : List T65) (h4_ h5_ : List T39) (h6_ h6__1 h6__2 h6__3 h6__4 h6__5 h6__6 h6__7 h6__8 h6__9 : Int) (h6__10 : List Int) (r : R3_aiirrzai5zr_l12) (hF : f3_aiirrzai5zr_l12_j1 k x2 x10 x12 x117 x118 x119 h0_ h0__1 h0__2 h0__3 h1_ h1__1 h1__2 h1__3 h1__4 h2_ h2__1 h3_ h4_ h5_ h6_ h6__1 h6__2 h6__3 h6__4 h6__5 h6__6 h6__7 h6__8 h6__9 h6__10 = some r) : EX 3 k (nav B3 [2,2,1,2,2,1,2,2,2,2,2,2,2,2,2,2]) (⟨182,[(2,.sl 1 (rowsOf (encI .u8) x2)),(3,.ptr 30000 0),(4,.ptr 30001 0),(8,.ptr 30002 0),(9,.own 30005),(10,.p (.int .i64 x10)),(11,.ptr 30006 0),(12,.p (.int .i64 x12)),(116,.own 30005),(117,.p (.int .i64 x117)),(118,.p (.int .i64 x118)),(119,.p (.bool x119))],[(30000,.box 26 [.p (.int .i64 h0_),.p (.int .u32 h0__1),.sl 4 (rowsOf encT65 h0__2),.sl 11 (rowsOf encT39 h0__3)]),(30001,.box 28 [.p (.int .i64 h1_),.p (.int .i64 h1__1),.p (.int .i64 h1__2),.p (.int .i64 h1__3),.p (.int .i64 h1__4)]),(30002,.box 26 [.p (.int .i64 h2_),.p (.int .u32 h2__1),.own 30003,.own 30004]),(30003,.row true 4 65 (rowsOf encT65 h3_)),(30004,.row true 11 39 (rowsOf encT39 h4_)),(30005,.row true 11 39 (rowsOf encT39 h5_)),(30006,.box 39 [.p (.int .i64 h6_),.p (.int .i64 h6__1),.p (.int .u32 h6__2),.p (.int .i64 h6__3),.p (.int .i64 h6__4),.p (.int .i64 h6__5),.p (.int .i64 h6__6),.p (.int .i64 h6__7),.p (.int .i64 h6__8),.p (.int .i64 h6__9),.sl 1 (rowsOf (encI .u8) h6__10)])]⟩ : St) = some r.st := by
 unfold f3_aiirrzai5zr_l12_j1 at hF
 obtain ⟨h1,hF⟩ := ifE_some.1 hF
 obtain ⟨h2,hF⟩ := ifE_some.1 hF
 obtain ⟨v3,h4,hF⟩ := bs hF
 obtain ⟨h5,hF⟩ := ifE_some.1 hF
 obtain ⟨h6,hF⟩ := ifE_some.1 hF
 obtain ⟨h7,hF⟩ := ifE_some.1 hF
 obtain ⟨h8,hF⟩ := ifE_some.1 hF
 obtain ⟨o9,h10,hF⟩ := bs hF
 have hc11 := f14_ai10rzai10rz_ok k v3.Source v3.Dest v3.Seq v3.Created v3.Lifetime v3.HopLimit v3.Hops v3.Priority v3.Offset v3.Total v3.Payload h6_ h6__1 h6__2 h6__3 h6__4 h6__5 h6__6 h6__7 x12 h6__9 ((List.drop (Int.toNat x12) ((List.take ((Int.toNat ((if ((List.length x2) : Int) < (IntKind.i64.wrap (x12 + h1__4)) then ((List.length x2) : Int) else (IntKind.i64.wrap (x12 + h1__4)))))) x2)))) _ h10
 cases o9 with
 | o0 v12 =>
  (try dsimp only at hF)
  (try simp only [NM,EE,R14_ai10rzai10rz.st] at hc11)
  simp (maxSteps:=999999) (disch:=first|exact D (by decide)|exact K (by kernel_rfl)) only [E,EE,↓reduceIte,simprocAttr,xk B3 [2,2,1,2,2,1,2,2,2,2,2,2,2,2,2,2] .sq rfl,xk B3 [1,2,2,1,2,2,1,2,2,2,2,2,2,2,2,2,2] (.bk 1) rfl,xk B3 [2,1,2,2,1,2,2,1,2,2,2,2,2,2,2,2,2,2] .sq rfl,rg B3 [1,2,1,2,2,1,2,2,1,2,2,2,2,2,2,2,2,2,2] 17 false rfl,hr_3_17,indexAddrV,t_24,t_39,encT39_eq,xk B3 [2,2,1,2,2,1,2,2,1,2,2,2,2,2,2,2,2,2,2] .sq rfl,rg B3 [1,2,2,1,2,2,1,2,2,1,2,2,2,2,2,2,2,2,2,2] 18 false rfl,hr_3_18,xk B3 [2,2,2,1,2,2,1,2,2,1,2,2,2,2,2,2,2,2,2,2] .sq rfl,rg B3 [1,2,2,2,1,2,2,1,2,2,1,2,2,2,2,2,2,2,2,2,2] 19 true rfl,hr_3_19,fieldAddrV,t_28,t_3,t_29,minmaxV,minmaxGo,sliceV,bound,t_5,xk B3 [2,2,2,2,1,2,2,1,2,2,1,2,2,2,2,2,2,2,2,2,2] .sq rfl,xk B3 [1,2,2,2,2,1,2,2,1,2,2,1,2,2,2,2,2,2,2,2,2,2] .sq rfl,rg B3 [1,1,2,2,2,2,1,2,2,1,2,2,1,2,2,2,2,2,2,2,2,2,2] 20 false rfl,hr_3_20,callStep,CL,gv,List.contains,xk B3 [2,1,2,2,2,2,1,2,2,1,2,2,1,2,2,2,2,2,2,2,2,2,2] (.cd 139) rfl,h1,h2,h4,h5,h6,h7,h8,hc11]
  rcases cond_some hF with ⟨h13,hF⟩ | ⟨h13,hF⟩
  ·cases hF
   simp (maxSteps:=999999) (disch:=first|exact D (by decide)|exact K (by kernel_rfl)) only [E,EE,↓reduceIte,simprocAttr,xk B3 [2,2,1,2,2,2,2,1,2,2,1,2,2,1,2,2,2,2,2,2,2,2,2,2] .sq rfl,rg B3 [1,2,2,1,2,2,2,2,1,2,2,1,2,2,1,2,2,2,2,2,2,2,2,2,2] 21 false rfl,hr_3_21,xk B3 [2,2,2,1,2,2,2,2,1,2,2,1,2,2,1,2,2,2,2,2,2,2,2,2,2] .rt rfl,R3_aiirrzai5zr_l12.st,h1,h2,h4,h5,h6,h7,h8,hc11,h13]
  ·have hJ := f3_aiirrzai5zr_l12_j2_ok k x2 x10 x12 x117 x118 false h0_ h0__1 h0__2 h0__3 h1_ h1__1 h1__2 h1__3 h1__4 h2_ h2__1 h3_ h4_ h5_ h6_ h6__1 h6__2 h6__3 h6__4 h6__5 h6__6 h6__7 h6__8 h6__9 h6__10 h6_ h6__1 h6__2 h6__3 h6__4 h6__5 h6__6 h6__7 x12 h6__9 ((List.drop (Int.toNat x12) ((List.take ((Int.toNat ((if ((List.length x2) : Int) < (IntKind.i64.wrap (x12 + h1__4)) then ((List.length x2) : Int) else (IntKind.i64.wrap (x12 + h1__4)))))) x2)))) _ hF
   simp (maxSteps:=999999) (disch:=first|exact D (by decide)|exact K (by kernel_rfl)) only [E,EE,↓reduceIte,simprocAttr,xk B3 [3,2,1,2,2,2,2,1,2,2,1,2,2,1,2,2,2,2,2,2,2,2,2,2] .sk rfl,h1,h2,h4,h5,h6,h7,h8,hc11,h13]
   try simp only [NM,EE] at hJ
   exact hJ
noncomputable def f3_aiirrzai5zr_l12_b (k : Nat) (x2 : List Int) (x10 x12 x117 x118 h0_ h0__1 : Int) (h0__2 : List T65) (h0__3 : List T39) (h1_ h1__1 h1__2 h1__3 h1__4 h2_ h2__1 : Int) (h3_ : List T65) (h4_ h5_ : List T39) (h6_ h6__1 h6__2 h6__3 h6__4 h6__5 h6__6 h6__7 h6__8 h6__9 : Int) (h6__10 : List Int) : Option R3_aiirrzai5zr_l12 :=
 cond ((decide (x118 < x117)))
  (f3_aiirrzai5zr_l12_j1 k x2 x10 x12 x117 x118 true h0_ h0__1 h0__2 h0__3 h1_ h1__1 h1__2 h1__3 h1__4 h2_ h2__1 h3_ h4_ h5_ h6_ h6__1 h6__2 h6__3 h6__4 h6__5 h6__6 h6__7 h6__8 h6__9 h6__10)
  (some (R3_aiirrzai5zr_l12.o3 x2 x10 x12 x117 x118 false h0_ h0__1 h0__2 h0__3 h1_ h1__1 h1__2 h1__3 h1__4 h2_ h2__1 h3_ h4_ h5_ h6_ h6__1 h6__2 h6__3 h6__4 h6__5 h6__6 h6__7 h6__8 h6__9 h6__10))
theorem f3_aiirrzai5zr_l12_b_ok (k : Nat) (x2 : List Int) (x10 x12 x117 x118 h0_ h0__1 : Int) (h0__2 : List T65) (h0__3 : List T39) (h1_ h1__1 h1__2 h1__3 h1__4 h2_ h2__1 : Int) (h3_ : List T65) (h4_ h5_ : List T39) (h6_ h6__1 h6__2 h6__3 h6__4 h6__5 h6__6 h6__7 h6__8 h6__9 : Int) (h6__10 : List Int) (r : R3_aiirrzai5zr_l12) (hF : f3_aiirrzai5zr_l12_b k x2 x10 x12 x117 x118 h0_ h0__1 h0__2 h0__3 h1_ h1__1 h1__2 h1__3 h1__4 h2_ h2__1 h3_ h4_ h5_ h6_ h6__1 h6__2 h6__3 h6__4 h6__5 h6__6 h6__7 h6__8 h6__9 h6__10 = some r) : EX 3 k (nav B3 [1,2,2,1,2,2,2,2,2,2,2,2,2,2]) (⟨182,[(2,.sl 1 (rowsOf (encI .u8) x2)),(3,.ptr 30000 0),(4,.ptr 30001 0),(8,.ptr 30002 0),(9,.own 30005),(10,.p (.int .i64 x10)),(11,.ptr 30006 0),(12,.p (.int .i64 x12)),(116,.own 30005),(117,.p (.int .i64 x117)),(118,.p (.int .i64 x118))],[(30000,.box 26 [.p (.int .i64 h0_),.p (.int .u32 h0__1),.sl 4 (rowsOf encT65 h0__2),.sl 11 (rowsOf encT39 h0__3)]),(30001,.box 28 [.p (.int .i64 h1_),.p (.int .i64 h1__1),.p (.int .i64 h1__2),.p (.int .i64 h1__3),.p (.int .i64 h1__4)]),(30002,.box 26 [.p (.int .i64 h2_),.p (.int .u32 h2__1),.own 30003,.own 30004]),(30003,.row true 4 65 (rowsOf encT65 h3_)),(30004,.row true 11 39 (rowsOf encT39 h4_)),(30005,.row true 11 39 (rowsOf encT39 h5_)),(30006,.box 39 [.p (.int .i64 h6_),.p (.int .i64 h6__1),.p (.int .u32 h6__2),.p (.int .i64 h6__3),.p (.int .i64 h6__4),.p (.int .i64 h6__5),.p (.int .i64 h6__6),.p (.int .i64 h6__7),.p (.int .i64 h6__8),.p (.int .i64 h6__9),.sl 1 (rowsOf (encI .u8) h6__10)])]⟩ : St) = some r.st := by
 unfold f3_aiirrzai5zr_l12_b at hF
 simp (maxSteps:=999999) (disch:=first|exact D (by decide)|exact K (by kernel_rfl)) only [E,EE,↓reduceIte,simprocAttr,xk B3 [1,2,2,1,2,2,2,2,2,2,2,2,2,2] .sq rfl,rg B3 [1,1,2,2,1,2,2,2,2,2,2,2,2,2,2] 16 false rfl,hr_3_16,xk B3 [2,1,2,2,1,2,2,2,2,2,2,2,2,2,2] .sq rfl,xk B3 [1,2,1,2,2,1,2,2,2,2,2,2,2,2,2,2] (.cd 119) rfl]
 rcases cond_some hF with ⟨h1,hF⟩ | ⟨h1,hF⟩
 ·have hJ := f3_aiirrzai5zr_l12_j1_ok k x2 x10 x12 x117 x118 true h0_ h0__1 h0__2 h0__3 h1_ h1__1 h1__2 h1__3 h1__4 h2_ h2__1 h3_ h4_ h5_ h6_ h6__1 h6__2 h6__3 h6__4 h6__5 h6__6 h6__7 h6__8 h6__9 h6__10 _ hF
  simp (maxSteps:=999999) (disch:=first|exact D (by decide)|exact K (by kernel_rfl)) only [E,EE,↓reduceIte,simprocAttr,xk B3 [2,1,2,1,2,2,1,2,2,2,2,2,2,2,2,2,2] .sk rfl,h1]
  try simp only [NM,EE] at hJ
  exact hJ
 ·cases hF
  simp (maxSteps:=999999) (disch:=first|exact D (by decide)|exact K (by kernel_rfl)) only [E,EE,↓reduceIte,simprocAttr,xk B3 [3,1,2,1,2,2,1,2,2,2,2,2,2,2,2,2,2] (.ex 0) rfl,R3_aiirrzai5zr_l12.st,h1]
noncomputable def f3_aiirrzai5zr_l12 (k : Nat) : Nat → (List Int) → Int → Int → Int → Int → Int → Int → (List T65) → (List T39) → Int → Int → Int → Int → Int → Int → Int → (List T65) → (List T39) → (List T39) → Int → Int → Int → Int → Int → Int → Int → Int → Int → Int → (List Int) → Option R3_aiirrzai5zr_l12
 | 0,_,_,_,_,_,_,_,_,_,_,_,_,_,_,_,_,_,_,_,_,_,_,_,_,_,_,_,_,_,_ => none
 | n + 1,x2,x10,x12,x117,x118,h0_,h0__1,h0__2,h0__3,h1_,h1__1,h1__2,h1__3,h1__4,h2_,h2__1,h3_,h4_,h5_,h6_,h6__1,h6__2,h6__3,h6__4,h6__5,h6__6,h6__7,h6__8,h6__9,h6__10 => Option.bind (f3_aiirrzai5zr_l12_b k x2 x10 x12 x117 x118 h0_ h0__1 h0__2 h0__3 h1_ h1__1 h1__2 h1__3 h1__4 h2_ h2__1 h3_ h4_ h5_ h6_ h6__1 h6__2 h6__3 h6__4 h6__5 h6__6 h6__7 h6__8 h6__9 h6__10) fun o =>
  match o with
  | .o0 y => some (.o0 y)
  | .o1 y y_1 y_2 y_3 y_4 y_5 y_6 y_7 y_8 y_9 y_10 y_11 y_12 y_13 y_14 y_15 y_16 y_17 y_18 y_19 y_20 y_21 y_22 y_23 y_24 y_25 y_26 y_27 y_28 y_29 y_30 => some (.o1 y y_1 y_2 y_3 y_4 y_5 y_6 y_7 y_8 y_9 y_10 y_11 y_12 y_13 y_14 y_15 y_16 y_17 y_18 y_19 y_20 y_21 y_22 y_23 y_24 y_25 y_26 y_27 y_28 y_29 y_30)
  | .o2 y y_1 y_2 y_3 y_4 y_5 y_6 y_7 y_8 y_9 y_10 y_11 y_12 y_13 y_14 y_15 y_16 y_17 y_18 y_19 y_20 y_21 y_22 y_23 y_24 y_25 y_26 y_27 y_28 y_29 => f3_aiirrzai5zr_l12 k n y y_1 y_2 y_3 y_4 y_5 y_6 y_7 y_8 y_9 y_10 y_11 y_12 y_13 y_14 y_15 y_16 y_17 y_18 y_19 y_20 y_21 y_22 y_23 y_24 y_25 y_26 y_27 y_28 y_29
  | .o3 y y_1 y_2 y_3 y_4 y_5 y_6 y_7 y_8 y_9 y_10 y_11 y_12 y_13 y_14 y_15 y_16 y_17 y_18 y_19 y_20 y_21 y_22 y_23 y_24 y_25 y_26 y_27 y_28 y_29 y_30 => some (.o3 y y_1 y_2 y_3 y_4 y_5 y_6 y_7 y_8 y_9 y_10 y_11 y_12 y_13 y_14 y_15 y_16 y_17 y_18 y_19 y_20 y_21 y_22 y_23 y_24 y_25 y_26 y_27 y_28 y_29 y_30)
theorem f3_aiirrzai5zr_l12_ok (k n : Nat) : ∀ (x2 : List Int) (x10 x12 x117 x118 h0_ h0__1 : Int) (h0__2 : List T65) (h0__3 : List T39) (h1_ h1__1 h1__2 h1__3 h1__4 h2_ h2__1 : Int) (h3_ : List T65) (h4_ h5_ : List T39) (h6_ h6__1 h6__2 h6__3 h6__4 h6__5 h6__6 h6__7 h6__8 h6__9 : Int) (h6__10 : List Int) (r : R3_aiirrzai5zr_l12) (hF : f3_aiirrzai5zr_l12 k n x2 x10 x12 x117 x118 h0_ h0__1 h0__2 h0__3 h1_ h1__1 h1__2 h1__3 h1__4 h2_ h2__1 h3_ h4_ h5_ h6_ h6__1 h6__2 h6__3 h6__4 h6__5 h6__6 h6__7 h6__8 h6__9 h6__10 = some r) (σ : St) (hσ : headR (hints.head 3 16) (hints.canon 3 16) σ = some (⟨182,[(2,.sl 1 (rowsOf (encI .u8) x2)),(3,.ptr 30000 0),(4,.ptr 30001 0),(8,.ptr 30002 0),(9,.own 30005),(10,.p (.int .i64 x10)),(11,.ptr 30006 0),(12,.p (.int .i64 x12)),(116,.own 30005),(117,.p (.int .i64 x117)),(118,.p (.int .i64 x118))],[(30000,.box 26 [.p (.int .i64 h0_),.p (.int .u32 h0__1),.sl 4 (rowsOf encT65 h0__2),.sl 11 (rowsOf encT39 h0__3)]),(30001,.box 28 [.p (.int .i64 h1_),.p (.int .i64 h1__1),.p (.int .i64 h1__2),.p (.int .i64 h1__3),.p (.int .i64 h1__4)]),(30002,.box 26 [.p (.int .i64 h2_),.p (.int .u32 h2__1),.own 30003,.own 30004]),(30003,.row true 4 65 (rowsOf encT65 h3_)),(30004,.row true 11 39 (rowsOf encT39 h4_)),(30005,.row true 11 39 (rowsOf encT39 h5_)),(30006,.box 39 [.p (.int .i64 h6_),.p (.int .i64 h6__1),.p (.int .u32 h6__2),.p (.int .i64 h6__3),.p (.int .i64 h6__4),.p (.int .i64 h6__5),.p (.int .i64 h6__6),.p (.int .i64 h6__7),.p (.int .i64 h6__8),.p (.int .i64 h6__9),.sl 1 (rowsOf (encI .u8) h6__10)])]⟩ : St)),LP 3 k (nav B3 [1,2,2,1,2,2,2,2,2,2,2,2,2,2]) n σ = some r.st := by
 induction n with
 | zero => intro x2 x10 x12 x117 x118 h0_ h0__1 h0__2 h0__3 h1_ h1__1 h1__2 h1__3 h1__4 h2_ h2__1 h3_ h4_ h5_ h6_ h6__1 h6__2 h6__3 h6__4 h6__5 h6__6 h6__7 h6__8 h6__9 h6__10 r hF; cases hF
 | succ n ih =>
  intro x2 x10 x12 x117 x118 h0_ h0__1 h0__2 h0__3 h1_ h1__1 h1__2 h1__3 h1__4 h2_ h2__1 h3_ h4_ h5_ h6_ h6__1 h6__2 h6__3 h6__4 h6__5 h6__6 h6__7 h6__8 h6__9 h6__10 r hF σ hσ
  rw [f3_aiirrzai5zr_l12] at hF
  obtain ⟨o,h,hF⟩ := Option.bind_eq_some_iff.1 hF
  have hB := f3_aiirrzai5zr_l12_b_ok k x2 x10 x12 x117 x118 h0_ h0__1 h0__2 h0__3 h1_ h1__1 h1__2 h1__3 h1__4 h2_ h2__1 h3_ h4_ h5_ h6_ h6__1 h6__2 h6__3 h6__4 h6__5 h6__6 h6__7 h6__8 h6__9 h6__10 o h
  unfold LP at ih ⊢
  unfold EX at hB
  rw [loopK_succ,show firstReg (nav B3 [1,2,2,1,2,2,2,2,2,2,2,2,2,2]) = 16 from rfl,hσ,headK_some,hB]
  cases o with
  | o0 y => cases hF; rfl
  | o1 y y_1 y_2 y_3 y_4 y_5 y_6 y_7 y_8 y_9 y_10 y_11 y_12 y_13 y_14 y_15 y_16 y_17 y_18 y_19 y_20 y_21 y_22 y_23 y_24 y_25 y_26 y_27 y_28 y_29 y_30 => cases hF; rfl
  | o2 y y_1 y_2 y_3 y_4 y_5 y_6 y_7 y_8 y_9 y_10 y_11 y_12 y_13 y_14 y_15 y_16 y_17 y_18 y_19 y_20 y_21 y_22 y_23 y_24 y_25 y_26 y_27 y_28 y_29 =>
   refine ih y y_1 y_2 y_3 y_4 y_5 y_6 y_7 y_8 y_9 y_10 y_11 y_12 y_13 y_14 y_15 y_16 y_17 y_18 y_19 y_20 y_21 y_22 y_23 y_24 y_25 y_26 y_27 y_28 y_29 r hF _ ?_
   simp (maxSteps:=999999) (disch:=first|exact D (by decide)|exact K (by kernel_rfl)) only [E,EE,↓reduceIte,simprocAttr,hh_3_16,hc_3_16]
  | o3 y y_1 y_2 y_3 y_4 y_5 y_6 y_7 y_8 y_9 y_10 y_11 y_12 y_13 y_14 y_15 y_16 y_17 y_18 y_19 y_20 y_21 y_22 y_23 y_24 y_25 y_26 y_27 y_28 y_29 y_30 => cases hF; rfl
noncomputable def f3_aiirrzai5zr_j13 (k : Nat) (x2 : List Int) (x10 x12 x117 x118 : Int) (x148 : Bool) (h0_ h0__1 : Int) (h0__2 : List T65) (h0__3 : List T39) (h1_ h1__1 h1__2 h1__3 h1__4 h2_ h2__1 : Int) (h3_ : List T65) (h4_ h5_ : List T39) (h6_ h6__1 h6__2 h6__3 h6__4 h6__5 h6__6 h6__7 h6__8 h6__9 : Int) (h6__10 : List Int) : Option R3_aiirrzai5zr :=
 cond ((x10 == 0))
  (
   cond ((x12 == ((List.length x2) : Int)))
    (
     ifE (¬ h1__4 = 0) (
      cond ((((List.length h5_) : Int) == (IntKind.i64.wrap (Int.tdiv (IntKind.i64.wrap ((IntKind.i64.wrap (((List.length x2) : Int) + h1__4)) - (1 : Int))) h1__4))))
       (
        Option.bind (f15_aiirrzaiirrz k h2_ h2__1 h3_ h4_ h0_ (IntKind.u32.wrap (h0__1 + (1 : Int))) h0__2 h0__3) fun o5 =>
         match o5 with
         | .o0 v8 =>
          some (R3_aiirrzai5zr.o0 v8))
       (some (R3_aiirrzai5zr.o0 false))))
    (some (R3_aiirrzai5zr.o0 false)))
  (some (R3_aiirrzai5zr.o0 false))
theorem f3_aiirrzai5zr_j13_ok (k : Nat) (x2 : List Int) (x10 x12 x117 x118 : Int) (x148 : Bool) (h0_ h0__1 : Int) (h0__2 : List T65) (h0__3 : List T39) (h1_ h1__1 h1__2 h1__3 h1__4 h2_ h2__1 : Int) (h3_ : List T65) (h4_ h5_ : List T39) (h6_ h6__1 h6__2 h6__3 h6__4 h6__5 h6__6 h6__7 h6__8 h6__9 : Int) (h6__10 : List Int) (r : R3_aiirrzai5zr) (hF : f3_aiirrzai5zr_j13 k x2 x10 x12 x117 x118 x148 h0_ h0__1 h0__2 h0__3 h1_ h1__1 h1__2 h1__3 h1__4 h2_ h2__1 h3_ h4_ h5_ h6_ h6__1 h6__2 h6__3 h6__4 h6__5 h6__6 h6__7 h6__8 h6__9 h6__10 = some r) : finK Try.prog Try.f3 0 (EX 3 k (nav B3 [2,2,2,2,2,2,2,2,2,2,2]) (⟨182,[(2,.sl 1 (rowsOf (encI .u8) x2)),(3,.ptr 30000 0),(4,.ptr 30001 0),(8,.ptr 30002 0),(9,.own 30005),(10,.p (.int .i64 x10)),(11,.ptr 30006 0),(12,.p (.int .i64 x12)),(116,.own 30005),(117,.p (.int .i64 x117)),(118,.p (.int .i64 x118)),(148,.p (.bool x148))],[(30000,.box 26 [.p (.int .i64 h0_),.p (.int .u32 h0__1),.sl 4 (rowsOf encT65 h0__2),.sl 11 (rowsOf encT39 h0__3)]),(30001,.box 28 [.p (.int .i64 h1_),.p (.int .i64 h1__1),.p (.int .i64 h1__2),.p (.int .i64 h1__3),.p (.int .i64 h1__4)]),(30002,.box 26 [.p (.int .i64 h2_),.p (.int .u32 h2__1),.own 30003,.own 30004]),(30003,.row true 4 65 (rowsOf encT65 h3_)),(30004,.row true 11 39 (rowsOf encT39 h4_)),(30005,.row true 11 39 (rowsOf encT39 h5_)),(30006,.box 39 [.p (.int .i64 h6_),.p (.int .i64 h6__1),.p (.int .u32 h6__2),.p (.int .i64 h6__3),.p (.int .i64 h6__4),.p (.int .i64 h6__5),.p (.int .i64 h6__6),.p (.int .i64 h6__7),.p (.int .i64 h6__8),.p (.int .i64 h6__9),.sl 1 (rowsOf (encI .u8) h6__10)])]⟩ : St)) = some r.st := by
 unfold f3_aiirrzai5zr_j13 at hF
 simp (maxSteps:=999999) (disch:=first|exact D (by decide)|exact K (by kernel_rfl)) only [E,EE,↓reduceIte,simprocAttr,xk B3 [2,2,2,2,2,2,2,2,2,2,2] .sq rfl,rg B3 [1,2,2,2,2,2,2,2,2,2,2,2] 25 false rfl,hr_3_25,t_26,xk B3 [2,2,2,2,2,2,2,2,2,2,2,2] .sq rfl,rg B3 [1,2,2,2,2,2,2,2,2,2,2,2,2] 26 false rfl,hr_3_26,fieldAddrV,t_22,xk B3 [2,2,2,2,2,2,2,2,2,2,2,2,2] .sq rfl,rg B3 [1,2,2,2,2,2,2,2,2,2,2,2,2,2] 27 false rfl,hr_3_27]
 rcases cond_some hF with ⟨h1,hF⟩ | ⟨h1,hF⟩
 ·simp (maxSteps:=999999) (disch:=first|exact D (by decide)|exact K (by kernel_rfl)) only [E,EE,↓reduceIte,simprocAttr,t_29,h1]
  rcases cond_some hF with ⟨h2,hF⟩ | ⟨h2,hF⟩
  ·obtain ⟨h3,hF⟩ := ifE_some.1 hF
   simp (maxSteps:=999999) (disch:=first|exact D (by decide)|exact K (by kernel_rfl)) only [E,EE,↓reduceIte,simprocAttr,t_24,t_29,fieldAddrV,t_28,t_3,h1,h2,h3]
   rcases cond_some hF with ⟨h4,hF⟩ | ⟨h4,hF⟩
   ·obtain ⟨o5,h6,hF⟩ := bs hF
    have hc7 := f15_aiirrzaiirrz_ok k h2_ h2__1 h3_ h4_ h0_ (IntKind.u32.wrap (h0__1 + (1 : Int))) h0__2 h0__3 _ h6
    cases o5 with
    | o0 v8 =>
     (try dsimp only at hF)
     (try simp only [NM,EE,R15_aiirrzaiirrz.st] at hc7)
     cases hF
     simp (maxSteps:=999999) (disch:=first|exact D (by decide)|exact K (by kernel_rfl)) only [E,EE,↓reduceIte,simprocAttr,t_26,callStep,CL,gv,List.contains,xk B3 [2,2,2,2,2,2,2,2,2,2,2,2,2,2] .rt rfl,finK_norm,finK_ret,fin3,R3_aiirrzai5zr.st,h1,h2,h3,h4,hc7]
   ·cases hF
    simp (maxSteps:=999999) (disch:=first|exact D (by decide)|exact K (by kernel_rfl)) only [E,EE,↓reduceIte,simprocAttr,xk B3 [2,2,2,2,2,2,2,2,2,2,2,2,2,2] .rt rfl,finK_norm,finK_ret,fin3,R3_aiirrzai5zr.st,h1,h2,h3,h4]
  ·cases hF
   simp (maxSteps:=999999) (disch:=first|exact D (by decide)|exact K (by kernel_rfl)) only [E,EE,↓reduceIte,simprocAttr,xk B3 [2,2,2,2,2,2,2,2,2,2,2,2,2,2] .rt rfl,finK_norm,finK_ret,fin3,R3_aiirrzai5zr.st,h1,h2]
 ·cases hF
  simp (maxSteps:=999999) (disch:=first|exact D (by decide)|exact K (by kernel_rfl)) only [E,EE,↓reduceIte,simprocAttr,xk B3 [2,2,2,2,2,2,2,2,2,2,2,2,2,2] .rt rfl,finK_norm,finK_ret,fin3,R3_aiirrzai5zr.st,h1]
noncomputable def f3_aiirrzai5zr_j14 (k : Nat) (x2 : List Int) (x10 x12 x117 x118 : Int) (x119 : Bool) (h0_ h0__1 : Int) (h0__2 : List T65) (h0__3 : List T39) (h1_ h1__1 h1__2 h1__3 h1__4 h2_ h2__1 : Int) (h3_ : List T65) (h4_ h5_ : List T39) (h6_ h6__1 h6__2 h6__3 h6__4 h6__5 h6__6 h6__7 h6__8 h6__9 : Int) (h6__10 : List Int) : Option R3_aiirrzai5zr :=
 cond ((x10 == 0))
  (
   cond ((x12 == ((List.length x2) : Int)))
    (
     ifE (¬ h1__4 = 0) (
      cond ((((List.length h5_) : Int) == (IntKind.i64.wrap (Int.tdiv (IntKind.i64.wrap ((IntKind.i64.wrap (((List.length x2) : Int) + h1__4)) - (1 : Int))) h1__4))))
       (
        Option.bind (f15_aiirrzaiirrz k h2_ h2__1 h3_ h4_ h0_ (IntKind.u32.wrap (h0__1 + (1 : Int))) h0__2 h0__3) fun o5 =>
         match o5 with
         | .o0 v8 =>
          some (R3_aiirrzai5zr.o0 v8))
       (some (R3_aiirrzai5zr.o0 false))))
    (some (R3_aiirrzai5zr.o0 false)))
  (some (R3_aiirrzai5zr.o0 false))
theorem f3_aiirrzai5zr_j14_ok (k : Nat) (x2 : List Int) (x10 x12 x117 x118 : Int) (x119 : Bool) (h0_ h0__1 : Int) (h0__2 : List T65) (h0__3 : List T39) (h1_ h1__1 h1__2 h1__3 h1__4 h2_ h2__1 : Int) (h3_ : List T65) (h4_ h5_ : List T39) (h6_ h6__1 h6__2 h6__3 h6__4 h6__5 h6__6 h6__7 h6__8 h6__9 : Int) (h6__10 : List Int) (r : R3_aiirrzai5zr) (hF : f3_aiirrzai5zr_j14 k x2 x10 x12 x117 x118 x119 h0_ h0__1 h0__2 h0__3 h1_ h1__1 h1__2 h1__3 h1__4 h2_ h2__1 h3_ h4_ h5_ h6_ h6__1 h6__2 h6__3 h6__4 h6__5 h6__6 h6__7 h6__8 h6__9 h6__10 = some r) : finK Try.prog Try.f3 0 (EX 3 k (nav B3 [2,2,2,2,2,2,2,2,2,2,2]) (⟨182,[(2,.sl 1 (rowsOf (encI .u8) x2)),(3,.ptr 30000 0),(4,.ptr 30001 0),(8,.ptr 30002 0),(9,.own 30005),(10,.p (.int .i64 x10)),(11,.ptr 30006 0),(12,.p (.int .i64 x12)),(116,.own 30005),(117,.p (.int .i64 x117)),(118,.p (.int .i64 x118)),(119,.p (.bool x119))],[(30000,.box 26 [.p (.int .i64 h0_),.p (.int .u32 h0__1),.sl 4 (rowsOf encT65 h0__2),.sl 11 (rowsOf encT39 h0__3)]),(30001,.box 28 [.p (.int .i64 h1_),.p (.int .i64 h1__1),.p (.int .i64 h1__2),.p (.int .i64 h1__3),.p (.int .i64 h1__4)]),(30002,.box 26 [.p (.int .i64 h2_),.p (.int .u32 h2__1),.own 30003,.own 30004]),(30003,.row true 4 65 (rowsOf encT65 h3_)),(30004,.row true 11 39 (rowsOf encT39 h4_)),(30005,.row true 11 39 (rowsOf encT39 h5_)),(30006,.box 39 [.p (.int .i64 h6_),.p (.int .i64 h6__1),.p (.int .u32 h6__2),.p (.int .i64 h6__3),.p (.int .i64 h6__4),.p (.int .i64 h6__5),.p (.int .i64 h6__6),.p (.int .i64 h6__7),.p (.int .i64 h6__8),.p (.int .i64 h6__9),.sl 1 (rowsOf (encI .u8) h6__10)])]⟩ : St)) = some r.st := by
 unfold f3_aiirrzai5zr_j14 at hF
 simp (maxSteps:=999999) (disch:=first|exact D (by decide)|exact K (by kernel_rfl)) only [E,EE,↓reduceIte,simprocAttr,xk B3 [2,2,2,2,2,2,2,2,2,2,2] .sq rfl,rg B3 [1,2,2,2,2,2,2,2,2,2,2,2] 25 false rfl,hr_3_25,t_26,xk B3 [2,2,2,2,2,2,2,2,2,2,2,2] .sq rfl,rg B3 [1,2,2,2,2,2,2,2,2,2,2,2,2] 26 false rfl,hr_3_26,fieldAddrV,t_22,xk B3 [2,2,2,2,2,2,2,2,2,2,2,2,2] .sq rfl,rg B3 [1,2,2,2,2,2,2,2,2,2,2,2,2,2] 27 false rfl,hr_3_27]
 rcases cond_some hF with ⟨h1,hF⟩ | ⟨h1,hF⟩
 ·simp (maxSteps:=999999) (disch:=first|exact D (by decide)|exact K (by kernel_rfl)) only [E,EE,↓reduceIte,simprocAttr,t_29,h1]
  rcases cond_some hF with ⟨h2,hF⟩ | ⟨h2,hF⟩
  ·obtain ⟨h3,hF⟩ := ifE_some.1 hF
   simp (maxSteps:=999999) (disch:=first|exact D (by decide)|exact K (by kernel_rfl)) only [E,EE,↓reduceIte,simprocAttr,t_24,t_29,fieldAddrV,t_28,t_3,h1,h2,h3]
   rcases cond_some hF with ⟨h4,hF⟩ | ⟨h4,hF⟩
   ·obtain ⟨o5,h6,hF⟩ := bs hF
    have hc7 := f15_aiirrzaiirrz_ok k h2_ h2__1 h3_ h4_ h0_ (IntKind.u32.wrap (h0__1 + (1 : Int))) h0__2 h0__3 _ h6
    cases o5 with
    | o0 v8 =>
     (try dsimp only at hF)
     (try simp only [NM,EE,R15_aiirrzaiirrz.st] at hc7)
     cases hF
     simp (maxSteps:=999999) (disch:=first|exact D (by decide)|exact K (by kernel_rfl)) only [E,EE,↓reduceIte,simprocAttr,t_26,callStep,CL,gv,List.contains,xk B3 [2,2,2,2,2,2,2,2,2,2,2,2,2,2] .rt rfl,finK_norm,finK_ret,fin3,R3_aiirrzai5zr.st,h1,h2,h3,h4,hc7]
   ·cases hF
    simp (maxSteps:=999999) (disch:=first|exact D (by decide)|exact K (by kernel_rfl)) only [E,EE,↓reduceIte,simprocAttr,xk B3 [2,2,2,2,2,2,2,2,2,2,2,2,2,2] .rt rfl,finK_norm,finK_ret,fin3,R3_aiirrzai5zr.st,h1,h2,h3,h4]
  ·cases hF
   simp (maxSteps:=999999) (disch:=first|exact D (by decide)|exact K (by kernel_rfl)) only [E,EE,↓reduceIte,simprocAttr,xk B3 [2,2,2,2,2,2,2,2,2,2,2,2,2,2] .rt rfl,finK_norm,finK_ret,fin3,R3_aiirrzai5zr.st,h1,h2]
 ·cases hF
  simp (maxSteps:=999999) (disch:=first|exact D (by decide)|exact K (by kernel_rfl)) only [E,EE,↓reduceIte,simprocAttr,xk B3 [2,2,2,2,2,2,2,2,2,2,2,2,2,2] .rt rfl,finK_norm,finK_ret,fin3,R3_aiirrzai5zr.st,h1]
noncomputable def f3_aiirrzai5zr_j11 (k : Nat) (x2 : List Int) (x10 : Int) (x107 : Bool) (m3 m3_1 : Int) (m3_2 : List T65) (m3_3 : List T39) (m4 m4_1 m4_2 m4_3 m4_4 m8 m8_1 : Int) (m35 : List T65) (m35_1_ m35_2_ : List T39) (m11 m11_1 m11_2 m11_3 m11_4 m11_5 m11_6 m11_7 m11_8 m11_9 : Int) (m11_10 : List Int) : Option R3_aiirrzai5zr :=
 Option.bind (f3_aiirrzai5zr_l12 k k x2 x10 0 ((List.length m35_2_) : Int) 0 m3 m3_1 m3_2 m3_3 m4 m4_1 m4_2 m4_3 m4_4 m8 m8_1 m35 m35_1_ m35_2_ m11 m11_1 m11_2 m11_3 m11_4 m11_5 m11_6 m11_7 m11_8 m11_9 m11_10) fun o1 =>
  match o1 with
  | .o0 v4 =>
   some (R3_aiirrzai5zr.o0 v4)
  | .o1 v5 v6 v7 v8 v9 v10 v11 v12 v13 v14 v15 v16 v17 v18 v19 v20 v21 v22 v23 v24 v25 v26 v27 v28 v29 v30 v31 v32 v33 v34 v35 =>
   f3_aiirrzai5zr_j13 k v5 v6 v7 v8 v9 v10 v11 v12 v13 v14 v15 v16 v17 v18 v19 v20 v21 v22 v23 v24 v25 v26 v27 v28 v29 v30 v31 v32 v33 v34 v35
  | .o2 _ _ _ _ _ _ _ _ _ _ _ _ _ _ _ _ _ _ _ _ _ _ _ _ _ _ _ _ _ _ =>
   none
  | .o3 v36 v37 v38 v39 v40 v41 v42 v43 v44 v45 v46 v47 v48 v49 v50 v51 v52 v53 v54 v55 v56 v57 v58 v59 v60 v61 v62 v63 v64 v65 v66 =>
   f3_aiirrzai5zr_j14 k v36 v37 v38 v39 v40 v41 v42 v43 v44 v45 v46 v47 v48 v49 v50 v51 v52 v53 v54 v55 v56 v57 v58 v59 v60 v61 v62 v63 v64 v65 v66
theorem f3_aiirrzai5zr_j11_ok (k : Nat) (x2 : List Int) (x10 : Int) (x107 : Bool) (m3 m3_1 : Int) (m3_2 : List T65) (m3_3 : List T39) (m4 m4_1 m4_2 m4_3 m4_4 m8 m8_1 : Int) (m35 : List T65) (m35_1_ m35_2_ : List T39) (m11 m11_1 m11_2 m11_3 m11_4 m11_5 m11_6 m11_7 m11_8 m11_9 : Int) (m11_10 : List Int) (r : R3_aiirrzai5zr) (hF : f3_aiirrzai5zr_j11 k x2 x10 x107 m3 m3_1 m3_2 m3_3 m4 m4_1 m4_2 m4_3 m4_4 m8 m8_1 m35 m35_1_ m35_2_ m11 m11_1 m11_2 m11_3 m11_4 m11_5 m11_6 m11_7 m11_8 m11_9 m11_10 = some r) : finK Try.prog Try.f3 0 (EX 3 k (nav B3 [2,2,2,2,2,2,2,2,2]) (⟨182,[(2,.sl 1 (rowsOf (encI .u8) x2)),(3,.ptr 3 0),(4,.ptr 4 0),(8,.ptr 8 0),(9,.own 20035),(10,.p (.int .i64 x10)),(11,.ptr 11 0),(107,.p (.bool x107))],[(3,.box 26 [.p (.int .i64 m3),.p (.int .u32 m3_1),.sl 4 (rowsOf encT65 m3_2),.sl 11 (rowsOf encT39 m3_3)]),(4,.box 28 [.p (.int .i64 m4),.p (.int .i64 m4_1),.p (.int .i64 m4_2),.p (.int .i64 m4_3),.p (.int .i64 m4_4)]),(8,.box 26 [.p (.int .i64 m8),.p (.int .u32 m8_1),.own 35,.own 10035]),(35,.row true 4 65 (rowsOf encT65 m35)),(10035,.row true 11 39 (rowsOf encT39 m35_1_)),(20035,.row true 11 39 (rowsOf encT39 m35_2_)),(11,.box 39 [.p (.int .i64 m11),.p (.int .i64 m11_1),.p (.int .u32 m11_2),.p (.int .i64 m11_3),.p (.int .i64 m11_4),.p (.int .i64 m11_5),.p (.int .i64 m11_6),.p (.int .i64 m11_7),.p (.int .i64 m11_8),.p (.int .i64 m11_9),.sl 1 (rowsOf (encI .u8) m11_10)])]⟩ : St)) = some r.st := by
 unfold f3_aiirrzai5zr_j11 at hF
 obtain ⟨o1,h2,hF⟩ := bs hF
 have hc3 := f3_aiirrzai5zr_l12_ok k k x2 x10 0 ((List.length m35_2_) : Int) 0 m3 m3_1 m3_2 m3_3 m4 m4_1 m4_2 m4_3 m4_4 m8 m8_1 m35 m35_1_ m35_2_ m11 m11_1 m11_2 m11_3 m11_4 m11_5 m11_6 m11_7 m11_8 m11_9 m11_10 _ h2
 simp (maxSteps:=999999) (disch:=first|exact D (by decide)|exact K (by kernel_rfl)) only [E,EE,↓reduceIte,simprocAttr,xk B3 [2,2,2,2,2,2,2,2,2] .sq rfl,rg B3 [1,2,2,2,2,2,2,2,2,2] 14 false rfl,hr_3_14,xk B3 [2,2,2,2,2,2,2,2,2,2] .sq rfl,xk B3 [1,2,2,2,2,2,2,2,2,2,2] .sq rfl,rg B3 [1,1,2,2,2,2,2,2,2,2,2,2] 15 false rfl,hr_3_15,t_24,xk B3 [2,1,2,2,2,2,2,2,2,2,2,2] (.bk 0) rfl,xk B3 [2,2,1,2,2,2,2,2,2,2,2,2,2] .lp rfl,hh_3_16,hc_3_16]
 (try simp only [NM,EE] at hc3)
 rw [hc3 _ (by simp (maxSteps:=999999) (disch:=first|exact D (by decide)|exact K (by kernel_rfl)) only [E,EE,↓reduceIte,simprocAttr,hh_3_16,hc_3_16])]
 clear hc3
 cases o1 with
 | o0 v4 =>
  (try dsimp only at hF)
  cases hF
  simp (maxSteps:=999999) (disch:=first|exact D (by decide)|exact K (by kernel_rfl)) only [E,EE,↓reduceIte,simprocAttr,R3_aiirrzai5zr_l12.st,finK_norm,finK_ret,fin3,R3_aiirrzai5zr.st]
 | o1 v5 v6 v7 v8 v9 v10 v11 v12 v13 v14 v15 v16 v17 v18 v19 v20 v21 v22 v23 v24 v25 v26 v27 v28 v29 v30 v31 v32 v33 v34 v35 =>
  (try dsimp only at hF)
  have hJ := f3_aiirrzai5zr_j13_ok k v5 v6 v7 v8 v9 v10 v11 v12 v13 v14 v15 v16 v17 v18 v19 v20 v21 v22 v23 v24 v25 v26 v27 v28 v29 v30 v31 v32 v33 v34 v35 _ hF
  simp (maxSteps:=999999) (disch:=first|exact D (by decide)|exact K (by kernel_rfl)) only [E,EE,↓reduceIte,simprocAttr,R3_aiirrzai5zr_l12.st]
  try simp only [NM,EE] at hJ
  exact hJ
 | o2 _ _ _ _ _ _ _ _ _ _ _ _ _ _ _ _ _ _ _ _ _ _ _ _ _ _ _ _ _ _ =>
  (try dsimp only at hF)
  cases hF
 | o3 v36 v37 v38 v39 v40 v41 v42 v43 v44 v45 v46 v47 v48 v49 v50 v51 v52 v53 v54 v55 v56 v57 v58 v59 v60 v61 v62 v63 v64 v65 v66 =>
  (try dsimp only at hF)
  have hJ := f3_aiirrzai5zr_j14_ok k v36 v37 v38 v39 v40 v41 v42 v43 v44 v45 v46 v47 v48 v49 v50 v51 v52 v53 v54 v55 v56 v57 v58 v59 v60 v61 v62 v63 v64 v65 v66 _ hF
  simp (maxSteps:=999999) (disch:=first|exact D (by decide)|exact K (by kernel_rfl)) only [E,EE,↓reduceIte,simprocAttr,R3_aiirrzai5zr_l12.st]
  try simp only [NM,EE] at hJ
  exact hJ
noncomputable def f3_aiirrzai5zr_j10 (k : Nat) (x2 : List Int) (x10 : Int) (x96 : Bool) (m3 m3_1 : Int) (m3_2 : List T65) (m3_3 : List T39) (m4 m4_1 m4_2 m4_3 m4_4 m8 m8_1 : Int) (m35 : List T65) (m35_1_ m35_2_ : List T39) (m11 m11_1 m11_2 m11_3 m11_4 m11_5 m11_6 m11_7 m11_8 m11_9 : Int) (m11_10 : List Int) : Option R3_aiirrzai5zr :=
 cond ((m3_1 == 4294967295))
  (
   Option.bind (f12_aiirrzii k m8 m8_1 m35 m35_1_ x10 6) fun o2 =>
    match o2 with
    | .o0 v5 =>
     cond (v5)
      (some (R3_aiirrzai5zr.o0 (((List.length m35_2_) : Int) == 0)))
      (some (R3_aiirrzai5zr.o0 false)))
  (f3_aiirrzai5zr_j11 k x2 x10 false m3 m3_1 m3_2 m3_3 m4 m4_1 m4_2 m4_3 m4_4 m8 m8_1 m35 m35_1_ m35_2_ m11 m11_1 m11_2 m11_3 m11_4 m11_5 m11_6 m11_7 m11_8 m11_9 m11_10)
theorem f3_aiirrzai5zr_j10_ok (k : Nat) (x2 : List Int) (x10 : Int) (x96 : Bool) (m3 m3_1 : Int) (m3_2 : List T65) (m3_3 : List T39) (m4 m4_1 m4_2 m4_3 m4_4 m8 m8_1 : Int) (m35 : List T65) (m35_1_ m35_2_ : List T39) (m11 m11_1 m11_2 m11_3 m11_4 m11_5 m11_6 m11_7 m11_8 m11_9 : Int) (m11_10 : List Int) (r : R3_aiirrzai5zr) (hF : f3_aiirrzai5zr_j10 k x2 x10 x96 m3 m3_1 m3_2 m3_3 m4 m4_1 m4_2 m4_3 m4_4 m8 m8_1 m35 m35_1_ m35_2_ m11 m11_1 m11_2 m11_3 m11_4 m11_5 m11_6 m11_7 m11_8 m11_9 m11_10 = some r) : finK Try.prog Try.f3 0 (EX 3 k (nav B3 [2,2,2,2,2,2,2,2]) (⟨182,[(2,.sl 1 (rowsOf (encI .u8) x2)),(3,.ptr 3 0),(4,.ptr 4 0),(8,.ptr 8 0),(9,.own 20035),(10,.p (.int .i64 x10)),(11,.ptr 11 0),(96,.p (.bool x96))],[(3,.box 26 [.p (.int .i64 m3),.p (.int .u32 m3_1),.sl 4 (rowsOf encT65 m3_2),.sl 11 (rowsOf encT39 m3_3)]),(4,.box 28 [.p (.int .i64 m4),.p (.int .i64 m4_1),.p (.int .i64 m4_2),.p (.int .i64 m4_3),.p (.int .i64 m4_4)]),(8,.box 26 [.p (.int .i64 m8),.p (.int .u32 m8_1),.own 35,.own 10035]),(35,.row true 4 65 (rowsOf encT65 m35)),(10035,.row true 11 39 (rowsOf encT39 m35_1_)),(20035,.row true 11 39 (rowsOf encT39 m35_2_)),(11,.box 39 [.p (.int .i64 m11),.p (.int .i64 m11_1),.p (.int .u32 m11_2),.p (.int .i64 m11_3),.p (.int .i64 m11_4),.p (.int .i64 m11_5),.p (.int .i64 m11_6),.p (.int .i64 m11_7),.p (.int .i64 m11_8),.p (.int .i64 m11_9),.sl 1 (rowsOf (encI .u8) m11_10)])]⟩ : St)) = some r.st := by
 unfold f3_aiirrzai5zr_j10 at hF
 simp (maxSteps:=999999) (disch:=first|exact D (by decide)|exact K (by kernel_rfl)) only [E,EE,↓reduceIte,simprocAttr,xk B3 [2,2,2,2,2,2,2,2] .sq rfl,xk B3 [1,2,2,2,2,2,2,2,2] .sq rfl,rg B3 [1,1,2,2,2,2,2,2,2,2] 12 false rfl,hr_3_12,fieldAddrV,t_26,t_22,xk B3 [2,1,2,2,2,2,2,2,2,2] (.cd 107) rfl]
 rcases cond_some hF with ⟨h1,hF⟩ | ⟨h1,hF⟩
 ·obtain ⟨o2,h3,hF⟩ := bs hF
  have hc4 := f12_aiirrzii_ok k m8 m8_1 m35 m35_1_ x10 6 _ h3
  cases o2 with
  | o0 v5 =>
   (try dsimp only at hF)
   (try simp only [NM,EE,R12_aiirrzii.st] at hc4)
   simp (maxSteps:=999999) (disch:=first|exact D (by decide)|exact K (by kernel_rfl)) only [E,EE,↓reduceIte,simprocAttr,xk B3 [2,2,1,2,2,2,2,2,2,2,2] .sq rfl,rg B3 [1,2,2,1,2,2,2,2,2,2,2,2] 13 false rfl,hr_3_13,t_26,callStep,CL,gv,List.contains,h1,hc4]
   rcases cond_some hF with ⟨h6,hF⟩ | ⟨h6,hF⟩
   ·cases hF
    simp (maxSteps:=999999) (disch:=first|exact D (by decide)|exact K (by kernel_rfl)) only [E,EE,↓reduceIte,simprocAttr,t_24,xk B3 [2,2,2,1,2,2,2,2,2,2,2,2] .rt rfl,finK_norm,finK_ret,fin3,R3_aiirrzai5zr.st,h1,hc4,h6]
   ·cases hF
    simp (maxSteps:=999999) (disch:=first|exact D (by decide)|exact K (by kernel_rfl)) only [E,EE,↓reduceIte,simprocAttr,xk B3 [2,2,2,1,2,2,2,2,2,2,2,2] .rt rfl,finK_norm,finK_ret,fin3,R3_aiirrzai5zr.st,h1,hc4,h6]
 ·have hJ := f3_aiirrzai5zr_j11_ok k x2 x10 false m3 m3_1 m3_2 m3_3 m4 m4_1 m4_2 m4_3 m4_4 m8 m8_1 m35 m35_1_ m35_2_ m11 m11_1 m11_2 m11_3 m11_4 m11_5 m11_6 m11_7 m11_8 m11_9 m11_10 _ hF
  simp (maxSteps:=999999) (disch:=first|exact D (by decide)|exact K (by kernel_rfl)) only [E,EE,↓reduceIte,simprocAttr,xk B3 [3,2,1,2,2,2,2,2,2,2,2] .sk rfl,h1]
  try simp only [NM,EE] at hJ
  exact hJ
noncomputable def f3_aiirrzai5zr_j9 (k : Nat) (x2 : List Int) (x7 x10 : Int) (x41 : Bool) (m3 m3_1 : Int) (m3_2 : List T65) (m3_3 : List T39) (m4 m4_1 m4_2 m4_3 m4_4 m8 m8_1 : Int) (m35 : List T65) (m35_1_ m35_2_ : List T39) : Option R3_aiirrzai5zr :=
 cond ((decide (m4 < 1)))
  (
   Option.bind (f12_aiirrzii k m8 m8_1 m35 m35_1_ x10 2) fun o2 =>
    match o2 with
    | .o0 v5 =>
     cond (v5)
      (some (R3_aiirrzai5zr.o0 (((List.length m35_2_) : Int) == 0)))
      (some (R3_aiirrzai5zr.o0 false)))
  (
   cond ((decide (m4 > 6)))
    (
     Option.bind (f12_aiirrzii k m8 m8_1 m35 m35_1_ x10 2) fun o8 =>
      match o8 with
      | .o0 v11 =>
       cond (v11)
        (some (R3_aiirrzai5zr.o0 (((List.length m35_2_) : Int) == 0)))
        (some (R3_aiirrzai5zr.o0 false)))
    (
     cond ((m4 == m3))
      (
       Option.bind (f12_aiirrzii k m8 m8_1 m35 m35_1_ x10 2) fun o14 =>
        match o14 with
        | .o0 v17 =>
         cond (v17)
          (some (R3_aiirrzai5zr.o0 (((List.length m35_2_) : Int) == 0)))
          (some (R3_aiirrzai5zr.o0 false)))
      (
       cond ((decide (m4_4 < 1)))
        (
         Option.bind (f12_aiirrzii k m8 m8_1 m35 m35_1_ x10 2) fun o20 =>
          match o20 with
          | .o0 v23 =>
           cond (v23)
            (some (R3_aiirrzai5zr.o0 (((List.length m35_2_) : Int) == 0)))
            (some (R3_aiirrzai5zr.o0 false)))
        (
         cond ((decide (m4_4 > 400)))
          (
           Option.bind (f12_aiirrzii k m8 m8_1 m35 m35_1_ x10 2) fun o26 =>
            match o26 with
            | .o0 v29 =>
             cond (v29)
              (some (R3_aiirrzai5zr.o0 (((List.length m35_2_) : Int) == 0)))
              (some (R3_aiirrzai5zr.o0 false)))
          (
           Option.bind (f13_ai10rz k m3 m4 m3_1 x7 m4_1 m4_2 0 m4_3 0 ((List.length x2) : Int) x2) fun o31 =>
            match o31 with
            | .o0 v34 =>
             cond ((!v34))
              (
               Option.bind (f12_aiirrzii k m8 m8_1 m35 m35_1_ x10 2) fun o36 =>
                match o36 with
                | .o0 v39 =>
                 cond (v39)
                  (some (R3_aiirrzai5zr.o0 (((List.length m35_2_) : Int) == 0)))
                  (some (R3_aiirrzai5zr.o0 false)))
              (f3_aiirrzai5zr_j10 k x2 x10 false m3 m3_1 m3_2 m3_3 m4 m4_1 m4_2 m4_3 m4_4 m8 m8_1 m35 m35_1_ m35_2_ m3 m4 m3_1 x7 m4_1 m4_2 0 m4_3 0 ((List.length x2) : Int) x2))))))
theorem f3_aiirrzai5zr_j9_ok (k : Nat) (x2 : List Int) (x7 x10 : Int) (x41 : Bool) (m3 m3_1 : Int) (m3_2 : List T65) (m3_3 : List T39) (m4 m4_1 m4_2 m4_3 m4_4 m8 m8_1 : Int) (m35 : List T65) (m35_1_ m35_2_ : List T39) (r : R3_aiirrzai5zr) (hF : f3_aiirrzai5zr_j9 k x2 x7 x10 x41 m3 m3_1 m3_2 m3_3 m4 m4_1 m4_2 m4_3 m4_4 m8 m8_1 m35 m35_1_ m35_2_ = some r) : finK Try.prog Try.f3 0 (EX 3 k (nav B3 [2,2,2,2,2,2]) (⟨182,[(2,.sl 1 (rowsOf (encI .u8) x2)),(3,.ptr 3 0),(4,.ptr 4 0),(7,.p (.int .i64 x7)),(8,.ptr 8 0),(9,.own 20035),(10,.p (.int .i64 x10)),(41,.p (.bool x41))],[(3,.box 26 [.p (.int .i64 m3),.p (.int .u32 m3_1),.sl 4 (rowsOf encT65 m3_2),.sl 11 (rowsOf encT39 m3_3)]),(4,.box 28 [.p (.int .i64 m4),.p (.int .i64 m4_1),.p (.int .i64 m4_2),.p (.int .i64 m4_3),.p (.int .i64 m4_4)]),(8,.box 26 [.p (.int .i64 m8),.p (.int .u32 m8_1),.own 35,.own 10035]),(35,.row true 4 65 (rowsOf encT65 m35)),(10035,.row true 11 39 (rowsOf encT39 m35_1_)),(20035,.row true 11 39 (rowsOf encT39 m35_2_))]⟩ : St)) = some r.st := by
 unfold f3_aiirrzai5zr_j9 at hF
 simp (maxSteps:=999999) (disch:=first|exact D (by decide)|exact K (by kernel_rfl)) only [E,EE,↓reduceIte,simprocAttr,xk B3 [2,2,2,2,2,2] .sq rfl,rg B3 [1,2,2,2,2,2,2] 9 false rfl,hr_3_9,fieldAddrV,t_26,t_3,t_28,t_22,t_29,bl_39,t_39,xk B3 [2,2,2,2,2,2,2] .sq rfl,xk B3 [1,2,2,2,2,2,2,2] .sq rfl,rg B3 [1,1,2,2,2,2,2,2,2] 10 false rfl,hr_3_10]
 rcases cond_some hF with ⟨h1,hF⟩ | ⟨h1,hF⟩
 ·obtain ⟨o2,h3,hF⟩ := bs hF
  have hc4 := f12_aiirrzii_ok k m8 m8_1 m35 m35_1_ x10 2 _ h3
  cases o2 with
  | o0 v5 =>
   (try dsimp only at hF)
   (try simp only [NM,EE,R12_aiirrzii.st] at hc4)
   simp (maxSteps:=999999) (disch:=first|exact D (by decide)|exact K (by kernel_rfl)) only [E,EE,↓reduceIte,simprocAttr,xk B3 [2,1,2,2,2,2,2,2,2] (.cd 96) rfl,xk B3 [2,2,1,2,2,2,2,2,2,2] .sq rfl,rg B3 [1,2,2,1,2,2,2,2,2,2,2] 11 false rfl,hr_3_11,t_26,callStep,CL,gv,List.contains,h1,hc4]
   rcases cond_some hF with ⟨h6,hF⟩ | ⟨h6,hF⟩
   ·cases hF
    simp (maxSteps:=999999) (disch:=first|exact D (by decide)|exact K (by kernel_rfl)) only [E,EE,↓reduceIte,simprocAttr,t_24,xk B3 [2,2,2,1,2,2,2,2,2,2,2] .rt rfl,finK_norm,finK_ret,fin3,R3_aiirrzai5zr.st,h1,hc4,h6]
   ·cases hF
    simp (maxSteps:=999999) (disch:=first|exact D (by decide)|exact K (by kernel_rfl)) only [E,EE,↓reduceIte,simprocAttr,xk B3 [2,2,2,1,2,2,2,2,2,2,2] .rt rfl,finK_norm,finK_ret,fin3,R3_aiirrzai5zr.st,h1,hc4,h6]
 ·simp (maxSteps:=999999) (disch:=first|exact D (by decide)|exact K (by kernel_rfl)) only [E,EE,↓reduceIte,simprocAttr,fieldAddrV,t_28,t_3,h1]
  rcases cond_some hF with ⟨h7,hF⟩ | ⟨h7,hF⟩
  ·obtain ⟨o8,h9,hF⟩ := bs hF
   have hc10 := f12_aiirrzii_ok k m8 m8_1 m35 m35_1_ x10 2 _ h9
   cases o8 with
   | o0 v11 =>
    (try dsimp only at hF)
    (try simp only [NM,EE,R12_aiirrzii.st] at hc10)
    simp (maxSteps:=999999) (disch:=first|exact D (by decide)|exact K (by kernel_rfl)) only [E,EE,↓reduceIte,simprocAttr,xk B3 [2,1,2,2,2,2,2,2,2] (.cd 96) rfl,xk B3 [2,2,1,2,2,2,2,2,2,2] .sq rfl,rg B3 [1,2,2,1,2,2,2,2,2,2,2] 11 false rfl,hr_3_11,t_26,callStep,CL,gv,List.contains,h1,h7,hc10]
    rcases cond_some hF with ⟨h12,hF⟩ | ⟨h12,hF⟩
    ·cases hF
     simp (maxSteps:=999999) (disch:=first|exact D (by decide)|exact K (by kernel_rfl)) only [E,EE,↓reduceIte,simprocAttr,t_24,xk B3 [2,2,2,1,2,2,2,2,2,2,2] .rt rfl,finK_norm,finK_ret,fin3,R3_aiirrzai5zr.st,h1,h7,hc10,h12]
    ·cases hF
     simp (maxSteps:=999999) (disch:=first|exact D (by decide)|exact K (by kernel_rfl)) only [E,EE,↓reduceIte,simprocAttr,xk B3 [2,2,2,1,2,2,2,2,2,2,2] .rt rfl,finK_norm,finK_ret,fin3,R3_aiirrzai5zr.st,h1,h7,hc10,h12]
  ·simp (maxSteps:=999999) (disch:=first|exact D (by decide)|exact K (by kernel_rfl)) only [E,EE,↓reduceIte,simprocAttr,fieldAddrV,t_28,t_3,t_26,h1,h7]
   rcases cond_some hF with ⟨h13,hF⟩ | ⟨h13,hF⟩
   ·obtain ⟨o14,h15,hF⟩ := bs hF
    have hc16 := f12_aiirrzii_ok k m8 m8_1 m35 m35_1_ x10 2 _ h15
    cases o14 with
    | o0 v17 =>
     (try dsimp only at hF)
     (try simp only [NM,EE,R12_aiirrzii.st] at hc16)
     simp (maxSteps:=999999) (disch:=first|exact D (by decide)|exact K (by kernel_rfl)) only [E,EE,↓reduceIte,simprocAttr,xk B3 [2,1,2,2,2,2,2,2,2] (.cd 96) rfl,xk B3 [2,2,1,2,2,2,2,2,2,2] .sq rfl,rg B3 [1,2,2,1,2,2,2,2,2,2,2] 11 false rfl,hr_3_11,t_26,callStep,CL,gv,List.contains,h1,h7,h13,hc16]
     rcases cond_some hF with ⟨h18,hF⟩ | ⟨h18,hF⟩
     ·cases hF
      simp (maxSteps:=999999) (disch:=first|exact D (by decide)|exact K (by kernel_rfl)) only [E,EE,↓reduceIte,simprocAttr,t_24,xk B3 [2,2,2,1,2,2,2,2,2,2,2] .rt rfl,finK_norm,finK_ret,fin3,R3_aiirrzai5zr.st,h1,h7,h13,hc16,h18]
     ·cases hF
      simp (maxSteps:=999999) (disch:=first|exact D (by decide)|exact K (by kernel_rfl)) only [E,EE,↓reduceIte,simprocAttr,xk B3 [2,2,2,1,2,2,2,2,2,2,2] .rt rfl,finK_norm,finK_ret,fin3,R3_aiirrzai5zr.st,h1,h7,h13,hc16,h18]
   ·simp (maxSteps:=999999) (disch:=first|exact D (by decide)|exact K (by kernel_rfl)) only [E,EE,↓reduceIte,simprocAttr,fieldAddrV,t_28,t_3,h1,h7,h13]
    rcases cond_some hF with ⟨h19,hF⟩ | ⟨h19,hF⟩
    ·obtain ⟨o20,h21,hF⟩ := bs hF
     have hc22 := f12_aiirrzii_ok k m8 m8_1 m35 m35_1_ x10 2 _ h21
     cases o20 with
     | o0 v23 =>
      (try dsimp only at hF)
      (try simp only [NM,EE,R12_aiirrzii.st] at hc22)
      simp (maxSteps:=999999) (disch:=first|exact D (by decide)|exact K (by kernel_rfl)) only [E,EE,↓reduceIte,simprocAttr,xk B3 [2,1,2,2,2,2,2,2,2] (.cd 96) rfl,xk B3 [2,2,1,2,2,2,2,2,2,2] .sq rfl,rg B3 [1,2,2,1,2,2,2,2,2,2,2] 11 false rfl,hr_3_11,t_26,callStep,CL,gv,List.contains,h1,h7,h13,h19,hc22]
      rcases cond_some hF with ⟨h24,hF⟩ | ⟨h24,hF⟩
      ·cases hF
       simp (maxSteps:=999999) (disch:=first|exact D (by decide)|exact K (by kernel_rfl)) only [E,EE,↓reduceIte,simprocAttr,t_24,xk B3 [2,2,2,1,2,2,2,2,2,2,2] .rt rfl,finK_norm,finK_ret,fin3,R3_aiirrzai5zr.st,h1,h7,h13,h19,hc22,h24]
      ·cases hF
       simp (maxSteps:=999999) (disch:=first|exact D (by decide)|exact K (by kernel_rfl)) only [E,EE,↓reduceIte,simprocAttr,xk B3 [2,2,2,1,2,2,2,2,2,2,2] .rt rfl,finK_norm,finK_ret,fin3,R3_aiirrzai5zr.st,h1,h7,h13,h19,hc22,h24]
    ·simp (maxSteps:=999999) (disch:=first|exact D (by decide)|exact K (by kernel_rfl)) only [E,EE,↓reduceIte,simprocAttr,fieldAddrV,t_28,t_3,h1,h7,h13,h19]
     rcases cond_some hF with ⟨h25,hF⟩ | ⟨h25,hF⟩
     ·obtain ⟨o26,h27,hF⟩ := bs hF
      have hc28 := f12_aiirrzii_ok k m8 m8_1 m35 m35_1_ x10 2 _ h27
      cases o26 with
      | o0 v29 =>
       (try dsimp only at hF)
       (try simp only [NM,EE,R12_aiirrzii.st] at hc28)
       simp (maxSteps:=999999) (disch:=first|exact D (by decide)|exact K (by kernel_rfl)) only [E,EE,↓reduceIte,simprocAttr,xk B3 [2,1,2,2,2,2,2,2,2] (.cd 96) rfl,xk B3 [2,2,1,2,2,2,2,2,2,2] .sq rfl,rg B3 [1,2,2,1,2,2,2,2,2,2,2] 11 false rfl,hr_3_11,t_26,callStep,CL,gv,List.contains,h1,h7,h13,h19,h25,hc28]
       rcases cond_some hF with ⟨h30,hF⟩ | ⟨h30,hF⟩
       ·cases hF
        simp (maxSteps:=999999) (disch:=first|exact D (by decide)|exact K (by kernel_rfl)) only [E,EE,↓reduceIte,simprocAttr,t_24,xk B3 [2,2,2,1,2,2,2,2,2,2,2] .rt rfl,finK_norm,finK_ret,fin3,R3_aiirrzai5zr.st,h1,h7,h13,h19,h25,hc28,h30]
       ·cases hF
        simp (maxSteps:=999999) (disch:=first|exact D (by decide)|exact K (by kernel_rfl)) only [E,EE,↓reduceIte,simprocAttr,xk B3 [2,2,2,1,2,2,2,2,2,2,2] .rt rfl,finK_norm,finK_ret,fin3,R3_aiirrzai5zr.st,h1,h7,h13,h19,h25,hc28,h30]
     ·obtain ⟨o31,h32,hF⟩ := bs hF
      have hc33 := f13_ai10rz_ok k m3 m4 m3_1 x7 m4_1 m4_2 0 m4_3 0 ((List.length x2) : Int) x2 _ h32
      cases o31 with
      | o0 v34 =>
       (try dsimp only at hF)
       (try simp only [NM,EE,R13_ai10rz.st] at hc33)
       simp (maxSteps:=999999) (disch:=first|exact D (by decide)|exact K (by kernel_rfl)) only [E,EE,↓reduceIte,simprocAttr,t_39,callStep,CL,gv,List.contains,xk B3 [2,1,2,2,2,2,2,2,2] (.cd 96) rfl,h1,h7,h13,h19,h25,hc33]
       rcases cond_some hF with ⟨h35,hF⟩ | ⟨h35,hF⟩
       ·obtain ⟨o36,h37,hF⟩ := bs hF
        have hc38 := f12_aiirrzii_ok k m8 m8_1 m35 m35_1_ x10 2 _ h37
        cases o36 with
        | o0 v39 =>
         (try dsimp only at hF)
         (try simp only [NM,EE,R12_aiirrzii.st] at hc38)
         simp (maxSteps:=999999) (disch:=first|exact D (by decide)|exact K (by kernel_rfl)) only [E,EE,↓reduceIte,simprocAttr,xk B3 [2,2,1,2,2,2,2,2,2,2] .sq rfl,rg B3 [1,2,2,1,2,2,2,2,2,2,2] 11 false rfl,hr_3_11,t_26,callStep,CL,gv,List.contains,h1,h7,h13,h19,h25,hc33,h35,hc38]
         rcases cond_some hF with ⟨h40,hF⟩ | ⟨h40,hF⟩
         ·cases hF
          simp (maxSteps:=999999) (disch:=first|exact D (by decide)|exact K (by kernel_rfl)) only [E,EE,↓reduceIte,simprocAttr,t_24,xk B3 [2,2,2,1,2,2,2,2,2,2,2] .rt rfl,finK_norm,finK_ret,fin3,R3_aiirrzai5zr.st,h1,h7,h13,h19,h25,hc33,h35,hc38,h40]
         ·cases hF
          simp (maxSteps:=999999) (disch:=first|exact D (by decide)|exact K (by kernel_rfl)) only [E,EE,↓reduceIte,simprocAttr,xk B3 [2,2,2,1,2,2,2,2,2,2,2] .rt rfl,finK_norm,finK_ret,fin3,R3_aiirrzai5zr.st,h1,h7,h13,h19,h25,hc33,h35,hc38,h40]
       ·have hJ := f3_aiirrzai5zr_j10_ok k x2 x10 false m3 m3_1 m3_2 m3_3 m4 m4_1 m4_2 m4_3 m4_4 m8 m8_1 m35 m35_1_ m35_2_ m3 m4 m3_1 x7 m4_1 m4_2 0 m4_3 0 ((List.length x2) : Int) x2 _ hF
        simp (maxSteps:=999999) (disch:=first|exact D (by decide)|exact K (by kernel_rfl)) only [E,EE,↓reduceIte,simprocAttr,xk B3 [3,2,1,2,2,2,2,2,2,2] .sk rfl,h1,h7,h13,h19,h25,hc33,h35]
        try simp only [NM,EE] at hJ
        exact hJ
noncomputable def f3_aiirrzai5zr_j2 (k : Nat) (x2 : List Int) (x25 : Bool) (m3 m3_1 : Int) (m3_2 : List T65) (m3_3 : List T39) (m4 m4_1 m4_2 m4_3 m4_4 : Int) : Option R3_aiirrzai5zr :=
 Option.bind (f10_aiirrz k m3 m3_1 m3_2 m3_3) fun o1 =>
  match o1 with
  | .o0 v4 v5 v6 v7 =>
   Option.bind (f9_aiirrzai5zri k v4 v5 v6 v7 m4 m4_1 m4_2 m4_3 m4_4 x2 (IntKind.i64.wrap (m4_3 * (7 : Int)))) fun o8 =>
    match o8 with
    | .o0 v11 v12 v13 v14 v15 v16 =>
     Option.bind (f11_aiirrz k m3 m3_1 m3_2 m3_3) fun o17 =>
      match o17 with
      | .o0 v20 =>
       cond ((!v20))
        (
         Option.bind (f12_aiirrzii k v11 v12 v13 v16 v15 290) fun o22 =>
          match o22 with
          | .o0 v25 =>
           cond (v25)
            (some (R3_aiirrzai5zr.o0 (((List.length v14) : Int) == 0)))
            (some (R3_aiirrzai5zr.o0 false)))
        (f3_aiirrzai5zr_j3 k x2 (IntKind.i64.wrap (m4_3 * (7 : Int))) v14 v15 false m3 m3_1 m3_2 m3_3 m4 m4_1 m4_2 m4_3 m4_4 v11 v12 v13 v16)
    | .o1 v27 v28 v29 v30 v31 v32 =>
     Option.bind (f11_aiirrz k m3 m3_1 m3_2 m3_3) fun o33 =>
      match o33 with
      | .o0 v36 =>
       cond ((!v36))
        (
         Option.bind (f12_aiirrzii k v27 v28 v30 v31 v29 290) fun o38 =>
          match o38 with
          | .o0 v41 =>
           cond (v41)
            (some (R3_aiirrzai5zr.o0 (((List.length v32) : Int) == 0)))
            (some (R3_aiirrzai5zr.o0 false)))
        (f3_aiirrzai5zr_j9 k x2 (IntKind.i64.wrap (m4_3 * (7 : Int))) v29 false m3 m3_1 m3_2 m3_3 m4 m4_1 m4_2 m4_3 m4_4 v27 v28 v30 v31 v32)
theorem f3_aiirrzai5zr_j2_ok (k : Nat) (x2 : List Int) (x25 : Bool) (m3 m3_1 : Int) (m3_2 : List T65) (m3_3 : List T39) (m4 m4_1 m4_2 m4_3 m4_4 : Int) (r : R3_aiirrzai5zr) (hF : f3_aiirrzai5zr_j2 k x2 x25 m3 m3_1 m3_2 m3_3 m4 m4_1 m4_2 m4_3 m4_4 = some r) : finK Try.prog Try.f3 0 (EX 3 k (nav B3 [2,2,2]) (⟨182,[(2,.sl 1 (rowsOf (encI .u8) x2)),(3,.ptr 3 0),(4,.ptr 4 0),(25,.p (.bool x25))],[(3,.box 26 [.p (.int .i64 m3),.p (.int .u32 m3_1),.sl 4 (rowsOf encT65 m3_2),.sl 11 (rowsOf encT39 m3_3)]),(4,.box 28 [.p (.int .i64 m4),.p (.int .i64 m4_1),.p (.int .i64 m4_2),.p (.int .i64 m4_3),.p (.int .i64 m4_4)])]⟩ : St)) = some r.st := by
 unfold f3_aiirrzai5zr_j2 at hF
 obtain ⟨o1,h2,hF⟩ := bs hF
 have hc3 := f10_aiirrz_ok k m3 m3_1 m3_2 m3_3 _ h2
 cases o1 with
 | o0 v4 v5 v6 v7 =>
  (try dsimp only at hF)
  (try simp only [NM,EE,R10_aiirrz.st] at hc3)
  simp (maxSteps:=999999) (disch:=first|exact D (by decide)|exact K (by kernel_rfl)) only [E,EE,↓reduceIte,simprocAttr,xk B3 [2,2,2] .sq rfl,rg B3 [1,2,2,2] 5 false rfl,hr_3_5,fieldAddrV,t_28,t_3,xk B3 [2,2,2,2] .sq rfl,rg B3 [1,2,2,2,2] 6 true rfl,hr_3_6,t_26,callStep,CL,gv,List.contains,hc3]
  obtain ⟨o8,h9,hF⟩ := bs hF
  have hc10 := f9_aiirrzai5zri_ok k v4 v5 v6 v7 m4 m4_1 m4_2 m4_3 m4_4 x2 (IntKind.i64.wrap (m4_3 * (7 : Int))) _ h9
  cases o8 with
  | o0 v11 v12 v13 v14 v15 v16 =>
   (try dsimp only at hF)
   (try simp only [NM,EE,R9_aiirrzai5zri.st] at hc10)
   obtain ⟨o17,h18,hF⟩ := bs hF
   have hc19 := f11_aiirrz_ok k m3 m3_1 m3_2 m3_3 _ h18
   cases o17 with
   | o0 v20 =>
    (try dsimp only at hF)
    (try simp only [NM,EE,R11_aiirrz.st] at hc19)
    simp (maxSteps:=999999) (disch:=first|exact D (by decide)|exact K (by kernel_rfl)) only [E,EE,↓reduceIte,simprocAttr,t_26,xk B3 [2,2,2,2,2] .sq rfl,xk B3 [1,2,2,2,2,2] .sq rfl,rg B3 [1,1,2,2,2,2,2] 7 false rfl,hr_3_7,callStep,CL,gv,List.contains,xk B3 [2,1,2,2,2,2,2] (.cd 41) rfl,hc3,hc10,hc19]
    rcases cond_some hF with ⟨h21,hF⟩ | ⟨h21,hF⟩
    ·obtain ⟨o22,h23,hF⟩ := bs hF
     have hc24 := f12_aiirrzii_ok k v11 v12 v13 v16 v15 290 _ h23
     cases o22 with
     | o0 v25 =>
      (try dsimp only at hF)
      (try simp only [NM,EE,R12_aiirrzii.st] at hc24)
      simp (maxSteps:=999999) (disch:=first|exact D (by decide)|exact K (by kernel_rfl)) only [E,EE,↓reduceIte,simprocAttr,xk B3 [2,2,1,2,2,2,2,2] .sq rfl,rg B3 [1,2,2,1,2,2,2,2,2] 8 false rfl,hr_3_8,t_26,callStep,CL,gv,List.contains,hc3,hc10,hc19,h21,hc24]
      rcases cond_some hF with ⟨h26,hF⟩ | ⟨h26,hF⟩
      ·cases hF
       simp (maxSteps:=999999) (disch:=first|exact D (by decide)|exact K (by kernel_rfl)) only [E,EE,↓reduceIte,simprocAttr,t_24,xk B3 [2,2,2,1,2,2,2,2,2] .rt rfl,finK_norm,finK_ret,fin3,R3_aiirrzai5zr.st,hc3,hc10,hc19,h21,hc24,h26]
      ·cases hF
       simp (maxSteps:=999999) (disch:=first|exact D (by decide)|exact K (by kernel_rfl)) only [E,EE,↓reduceIte,simprocAttr,xk B3 [2,2,2,1,2,2,2,2,2] .rt rfl,finK_norm,finK_ret,fin3,R3_aiirrzai5zr.st,hc3,hc10,hc19,h21,hc24,h26]
    ·have hJ := f3_aiirrzai5zr_j3_ok k x2 (IntKind.i64.wrap (m4_3 * (7 : Int))) v14 v15 false m3 m3_1 m3_2 m3_3 m4 m4_1 m4_2 m4_3 m4_4 v11 v12 v13 v16 _ hF
     simp (maxSteps:=999999) (disch:=first|exact D (by decide)|exact K (by kernel_rfl)) only [E,EE,↓reduceIte,simprocAttr,xk B3 [3,2,1,2,2,2,2,2] .sk rfl,hc3,hc10,hc19,h21]
     try simp only [NM,EE] at hJ
     exact hJ
  | o1 v27 v28 v29 v30 v31 v32 =>
   (try dsimp only at hF)
   (try simp only [NM,EE,R9_aiirrzai5zri.st] at hc10)
   obtain ⟨o33,h34,hF⟩ := bs hF
   have hc35 := f11_aiirrz_ok k m3 m3_1 m3_2 m3_3 _ h34
   cases o33 with
   | o0 v36 =>
    (try dsimp only at hF)
    (try simp only [NM,EE,R11_aiirrz.st] at hc35)
    simp (maxSteps:=999999) (disch:=first|exact D (by decide)|exact K (by kernel_rfl)) only [E,EE,↓reduceIte,simprocAttr,t_26,xk B3 [2,2,2,2,2] .sq rfl,xk B3 [1,2,2,2,2,2] .sq rfl,rg B3 [1,1,2,2,2,2,2] 7 false rfl,hr_3_7,callStep,CL,gv,List.contains,xk B3 [2,1,2,2,2,2,2] (.cd 41) rfl,hc3,hc10,hc35]
    rcases cond_some hF with ⟨h37,hF⟩ | ⟨h37,hF⟩
    ·obtain ⟨o38,h39,hF⟩ := bs hF
     have hc40 := f12_aiirrzii_ok k v27 v28 v30 v31 v29 290 _ h39
     cases o38 with
     | o0 v41 =>
      (try dsimp only at hF)
      (try simp only [NM,EE,R12_aiirrzii.st] at hc40)
      simp (maxSteps:=999999) (disch:=first|exact D (by decide)|exact K (by kernel_rfl)) only [E,EE,↓reduceIte,simprocAttr,xk B3 [2,2,1,2,2,2,2,2] .sq rfl,rg B3 [1,2,2,1,2,2,2,2,2] 8 false rfl,hr_3_8,t_26,callStep,CL,gv,List.contains,hc3,hc10,hc35,h37,hc40]
      rcases cond_some hF with ⟨h42,hF⟩ | ⟨h42,hF⟩
      ·cases hF
       simp (maxSteps:=999999) (disch:=first|exact D (by decide)|exact K (by kernel_rfl)) only [E,EE,↓reduceIte,simprocAttr,t_24,xk B3 [2,2,2,1,2,2,2,2,2] .rt rfl,finK_norm,finK_ret,fin3,R3_aiirrzai5zr.st,hc3,hc10,hc35,h37,hc40,h42]
      ·cases hF
       simp (maxSteps:=999999) (disch:=first|exact D (by decide)|exact K (by kernel_rfl)) only [E,EE,↓reduceIte,simprocAttr,xk B3 [2,2,2,1,2,2,2,2,2] .rt rfl,finK_norm,finK_ret,fin3,R3_aiirrzai5zr.st,hc3,hc10,hc35,h37,hc40,h42]
    ·have hJ := f3_aiirrzai5zr_j9_ok k x2 (IntKind.i64.wrap (m4_3 * (7 : Int))) v29 false m3 m3_1 m3_2 m3_3 m4 m4_1 m4_2 m4_3 m4_4 v27 v28 v30 v31 v32 _ hF
     simp (maxSteps:=999999) (disch:=first|exact D (by decide)|exact K (by kernel_rfl)) only [E,EE,↓reduceIte,simprocAttr,xk B3 [3,2,1,2,2,2,2,2] .sk rfl,hc3,hc10,hc35,h37]
     try simp only [NM,EE] at hJ
     exact hJ
noncomputable def f3_aiirrzai5zr_j1 (k : Nat) (x2 : List Int) (x18 : Bool) (m3 m3_1 : Int) (m3_2 : List T65) (m3_3 : List T39) (m4 m4_1 m4_2 m4_3 m4_4 : Int) : Option R3_aiirrzai5zr :=
 Option.bind (f8_aiirrzn k m3 m3_1 m3_2 m3_3) fun o1 =>
  match o1 with
  | .o0 v4 =>
   cond (v4)
    (some (R3_aiirrzai5zr.o0 true))
    (
     cond ((decide (((List.length x2) : Int) > 3000)))
      (some (R3_aiirrzai5zr.o0 true))
      (f3_aiirrzai5zr_j2 k x2 false m3 m3_1 m3_2 m3_3 m4 m4_1 m4_2 m4_3 m4_4))
theorem f3_aiirrzai5zr_j1_ok (k : Nat) (x2 : List Int) (x18 : Bool) (m3 m3_1 : Int) (m3_2 : List T65) (m3_3 : List T39) (m4 m4_1 m4_2 m4_3 m4_4 : Int) (r : R3_aiirrzai5zr) (hF : f3_aiirrzai5zr_j1 k x2 x18 m3 m3_1 m3_2 m3_3 m4 m4_1 m4_2 m4_3 m4_4 = some r) : finK Try.prog Try.f3 0 (EX 3 k (nav B3 [2,2]) (⟨182,[(2,.sl 1 (rowsOf (encI .u8) x2)),(3,.ptr 3 0),(4,.ptr 4 0),(18,.p (.bool x18))],[(3,.box 26 [.p (.int .i64 m3),.p (.int .u32 m3_1),.sl 4 (rowsOf encT65 m3_2),.sl 11 (rowsOf encT39 m3_3)]),(4,.box 28 [.p (.int .i64 m4),.p (.int .i64 m4_1),.p (.int .i64 m4_2),.p (.int .i64 m4_3),.p (.int .i64 m4_4)])]⟩ : St)) = some r.st := by
 unfold f3_aiirrzai5zr_j1 at hF
 obtain ⟨o1,h2,hF⟩ := bs hF
 have hc3 := f8_aiirrzn_ok k m3 m3_1 m3_2 m3_3 _ h2
 cases o1 with
 | o0 v4 =>
  (try dsimp only at hF)
  (try simp only [NM,EE,R8_aiirrzn.st] at hc3)
  simp (maxSteps:=999999) (disch:=first|exact D (by decide)|exact K (by kernel_rfl)) only [E,EE,↓reduceIte,simprocAttr,xk B3 [2,2] .sq rfl,xk B3 [1,2,2] .sq rfl,rg B3 [1,1,2,2] 3 false rfl,hr_3_3,t_26,callStep,CL,gv,List.contains,hc3]
  rcases cond_some hF with ⟨h5,hF⟩ | ⟨h5,hF⟩
  ·cases hF
   simp (maxSteps:=999999) (disch:=first|exact D (by decide)|exact K (by kernel_rfl)) only [E,EE,↓reduceIte,simprocAttr,xk B3 [2,1,2,2] (.cd 25) rfl,xk B3 [2,2,1,2,2] .sq rfl,rg B3 [1,2,2,1,2,2] 4 false rfl,hr_3_4,xk B3 [2,2,2,1,2,2] .rt rfl,finK_norm,finK_ret,fin3,R3_aiirrzai5zr.st,hc3,h5]
  ·simp (maxSteps:=999999) (disch:=first|exact D (by decide)|exact K (by kernel_rfl)) only [E,EE,↓reduceIte,simprocAttr,t_29,xk B3 [2,1,2,2] (.cd 25) rfl,hc3,h5]
   rcases cond_some hF with ⟨h6,hF⟩ | ⟨h6,hF⟩
   ·cases hF
    simp (maxSteps:=999999) (disch:=first|exact D (by decide)|exact K (by kernel_rfl)) only [E,EE,↓reduceIte,simprocAttr,xk B3 [2,2,1,2,2] .sq rfl,rg B3 [1,2,2,1,2,2] 4 false rfl,hr_3_4,xk B3 [2,2,2,1,2,2] .rt rfl,finK_norm,finK_ret,fin3,R3_aiirrzai5zr.st,hc3,h5,h6]
   ·have hJ := f3_aiirrzai5zr_j2_ok k x2 false m3 m3_1 m3_2 m3_3 m4 m4_1 m4_2 m4_3 m4_4 _ hF
    simp (maxSteps:=999999) (disch:=first|exact D (by decide)|exact K (by kernel_rfl)) only [E,EE,↓reduceIte,simprocAttr,xk B3 [3,2,1,2,2] .sk rfl,hc3,h5,h6]
    try simp only [NM,EE] at hJ
    exact hJ
noncomputable def f3_aiirrzai5zr_e (k : Nat) (a0 a0_1 : Int) (a0_2 : List T65) (a0_3 : List T39) (a1 a1_1 a1_2 a1_3 a1_4 : Int) (a2 : List Int) : Option R3_aiirrzai5zr :=
 Option.bind (f7_ k) fun o1 =>
  match o1 with
  | .o0 v4 =>
   cond ((!v4))
    (some (R3_aiirrzai5zr.o0 false))
    (f3_aiirrzai5zr_j1 k a2 false a0 a0_1 a0_2 a0_3 a1 a1_1 a1_2 a1_3 a1_4)
theorem f3_aiirrzai5zr_e_ok (k : Nat) (a0 a0_1 : Int) (a0_2 : List T65) (a0_3 : List T39) (a1 a1_1 a1_2 a1_3 a1_4 : Int) (a2 : List Int) (r : R3_aiirrzai5zr) (hF : f3_aiirrzai5zr_e k a0 a0_1 a0_2 a0_3 a1 a1_1 a1_2 a1_3 a1_4 a2 = some r) : finK Try.prog Try.f3 0 (EX 3 k (nav B3 []) (⟨182,[(0,.agg [.p (.int .i64 a0),.p (.int .u32 a0_1),.sl 4 (rowsOf encT65 a0_2),.sl 11 (rowsOf encT39 a0_3)]),(1,.agg [.p (.int .i64 a1),.p (.int .i64 a1_1),.p (.int .i64 a1_2),.p (.int .i64 a1_3),.p (.int .i64 a1_4)]),(2,.sl 1 (rowsOf (encI .u8) a2))],[]⟩ : St)) = some r.st := by
 unfold f3_aiirrzai5zr_e at hF
 obtain ⟨o1,h2,hF⟩ := bs hF
 have hc3 := f7__ok k _ h2
 cases o1 with
 | o0 v4 =>
  (try dsimp only at hF)
  (try simp only [NM,EE,R7_.st] at hc3)
  simp (maxSteps:=999999) (disch:=first|exact D (by decide)|exact K (by kernel_rfl)) only [E,EE,↓reduceIte,simprocAttr,xk B3 [] .sq rfl,rg B3 [1] 0 false rfl,hr_3_0,xk B3 [2] .sq rfl,xk B3 [1,2] .sq rfl,rg B3 [1,1,2] 1 false rfl,hr_3_1,callStep,CL,gv,List.contains,xk B3 [2,1,2] (.cd 18) rfl,hc3]
  rcases cond_some hF with ⟨h5,hF⟩ | ⟨h5,hF⟩
  ·cases hF
   simp (maxSteps:=999999) (disch:=first|exact D (by decide)|exact K (by kernel_rfl)) only [E,EE,↓reduceIte,simprocAttr,xk B3 [2,2,1,2] .sq rfl,rg B3 [1,2,2,1,2] 2 false rfl,hr_3_2,xk B3 [2,2,2,1,2] .rt rfl,finK_norm,finK_ret,fin3,R3_aiirrzai5zr.st,hc3,h5]
  ·have hJ := f3_aiirrzai5zr_j1_ok k a2 false a0 a0_1 a0_2 a0_3 a1 a1_1 a1_2 a1_3 a1_4 _ hF
   simp (maxSteps:=999999) (disch:=first|exact D (by decide)|exact K (by kernel_rfl)) only [E,EE,↓reduceIte,simprocAttr,xk B3 [3,2,1,2] .sk rfl,hc3,h5]
   try simp only [NM,EE] at hJ
   exact hJ
noncomputable def f3_aiirrzai5zr (k : Nat) (a0 a0_1 : Int) (a0_2 : List T65) (a0_3 : List T39) (a1 a1_1 a1_2 a1_3 a1_4 : Int) (a2 : List Int) : Option R3_aiirrzai5zr := match k with | 0 => none | k + 1 => f3_aiirrzai5zr_e k a0 a0_1 a0_2 a0_3 a1 a1_1 a1_2 a1_3 a1_4 a2
theorem f3_aiirrzai5zr_ok (k : Nat) (a0 a0_1 : Int) (a0_2 : List T65) (a0_3 : List T39) (a1 a1_1 a1_2 a1_3 a1_4 : Int) (a2 : List Int) (r : R3_aiirrzai5zr) (hF : f3_aiirrzai5zr k a0 a0_1 a0_2 a0_3 a1 a1_1 a1_2 a1_3 a1_4 a2 = some r) : CV k 3 [.agg [.p (.int .i64 a0),.p (.int .u32 a0_1),.sl 4 (rowsOf encT65 a0_2),.sl 11 (rowsOf encT39 a0_3)],.agg [.p (.int .i64 a1),.p (.int .i64 a1_1),.p (.int .i64 a1_2),.p (.int .i64 a1_3),.p (.int .i64 a1_4)],.sl 1 (rowsOf (encI .u8) a2)] [] = some r.st := by
 cases k with
 | zero => cases hF
 | succ k =>
  unfold CV
  rw [ev_call (F := Try.f3) (c := (nav B3 [])) rfl Try.func3 rfl rfl rfl rfl]
  exact f3_aiirrzai5zr_e_ok k a0 a0_1 a0_2 a0_3 a1 a1_1 a1_2 a1_3 a1_4 a2 r hF
end Go.Proofs.YticggdfaehneeaaV
