/- What the program's functions answer: plain functions,and that the interpreter answers what they do. Written by a program of this session,out of the translation. -/
import Derived.Test.YticggdfaehneeaaVP12
namespace Go.Proofs.YticggdfaehneeaaV
open Go
set_option linter.unusedVariables false
set_option linter.unusedSimpArgs false
set_option maxRecDepth 8000
set_option maxHeartbeats 4000000
-- f6_aiirrzaiirrzi: f6 heliograph/heliographlaw19.AgentExpires
inductive R6_aiirrzaiirrzi where
 | o0 (y:Bool)
noncomputable def R6_aiirrzaiirrzi.st : R6_aiirrzaiirrzi → V × List O × List O
 | .o0 y => (.p (.bool y),[],[])
inductive R6_aiirrzaiirrzi_l6 where
 | o0 (y y_1:Int) (y_2:List T39) (y_3 y_4 y_5 y_6:Int) (y_7:List T65) (y_8:List T39) (y_9 y_10:Int) (y_11:List T65) (y_12:List T39)
 | o1 (y y_1:Int) (y_2:List T39) (y_3 y_4 y_5 y_6:Int) (y_7:List T65) (y_8:List T39) (y_9 y_10:Int) (y_11:List T65) (y_12:List T39)
 | o2 (y y_1:Int) (y_2:List T39) (y_3 y_4:Int) (y_5:Bool) (y_6 y_7:Int) (y_8:List T65) (y_9:List T39) (y_10 y_11:Int) (y_12:List T65) (y_13:List T39)
noncomputable def R6_aiirrzaiirrzi_l6.st : R6_aiirrzaiirrzi_l6 → Out × St
 | .o0 y y_1 y_2 y_3 y_4 y_5 y_6 y_7 y_8 y_9 y_10 y_11 y_12 => (.norm,(⟨114,[(2,.p (.int .i64 y)),(9,.ptr 30000 0),(10,.p (.int .i64 y_1)),(11,.ptr 30002 0),(87,.sl 11 (rowsOf encT39 y_2)),(88,.p (.int .i64 y_3)),(89,.p (.int .i64 y_4))],[(30000,.box 26 [.p (.int .i64 y_5),.p (.int .u32 y_6),.sl 4 (rowsOf encT65 y_7),.own 30001]),(30001,.row true 11 39 (rowsOf encT39 y_8)),(30002,.box 26 [.p (.int .i64 y_9),.p (.int .u32 y_10),.sl 4 (rowsOf encT65 y_11),.own 104]),(104,.row true 11 39 (rowsOf encT39 y_12))]⟩ : St))
 | .o1 y y_1 y_2 y_3 y_4 y_5 y_6 y_7 y_8 y_9 y_10 y_11 y_12 => (.norm,(⟨114,[(2,.p (.int .i64 y)),(9,.ptr 30000 0),(10,.p (.int .i64 y_1)),(11,.ptr 30002 0),(87,.sl 11 (rowsOf encT39 y_2)),(88,.p (.int .i64 y_3)),(89,.p (.int .i64 y_4))],[(30000,.box 26 [.p (.int .i64 y_5),.p (.int .u32 y_6),.sl 4 (rowsOf encT65 y_7),.own 30001]),(30001,.row true 11 39 (rowsOf encT39 y_8)),(30002,.box 26 [.p (.int .i64 y_9),.p (.int .u32 y_10),.sl 4 (rowsOf encT65 y_11),.own 30003]),(30003,.row true 11 39 (rowsOf encT39 y_12))]⟩ : St))
 | .o2 y y_1 y_2 y_3 y_4 y_5 y_6 y_7 y_8 y_9 y_10 y_11 y_12 y_13 => (.exit 1,(⟨114,[(2,.p (.int .i64 y)),(9,.ptr 30000 0),(10,.p (.int .i64 y_1)),(11,.ptr 30002 0),(87,.sl 11 (rowsOf encT39 y_2)),(88,.p (.int .i64 y_3)),(89,.p (.int .i64 y_4)),(90,.p (.bool y_5))],[(30000,.box 26 [.p (.int .i64 y_6),.p (.int .u32 y_7),.sl 4 (rowsOf encT65 y_8),.own 30001]),(30001,.row true 11 39 (rowsOf encT39 y_9)),(30002,.box 26 [.p (.int .i64 y_10),.p (.int .u32 y_11),.sl 4 (rowsOf encT65 y_12),.own 30003]),(30003,.row true 11 39 (rowsOf encT39 y_13))]⟩ : St))
noncomputable def f6_aiirrzaiirrzi_l6_j2 (k:Nat) (x2 x10:Int) (x87:List T39) (x88 x89 h0_ h0__1:Int) (h0__2:List T65) (h1_:List T39) (h2_ h2__1:Int) (h2__2:List T65) (m104:List T39) : Option R6_aiirrzaiirrzi_l6 :=
 some (R6_aiirrzaiirrzi_l6.o0 x2 x10 x87 x88 (IntKind.i64.wrap (x89 + (1:Int))) h0_ h0__1 h0__2 h1_ h2_ h2__1 h2__2 m104)
theorem f6_aiirrzaiirrzi_l6_j2_ok (k:Nat) (x2 x10:Int) (x87:List T39) (x88 x89 h0_ h0__1:Int) (h0__2:List T65) (h1_:List T39) (h2_ h2__1:Int) (h2__2:List T65) (m104:List T39) (r:R6_aiirrzaiirrzi_l6) (hF:f6_aiirrzaiirrzi_l6_j2 k x2 x10 x87 x88 x89 h0_ h0__1 h0__2 h1_ h2_ h2__1 h2__2 m104 = some r) : EX 6 k (nav B6 [2,2,2,1,2,2,1,2,2,2,2,2,2,2,2,2,2]) (⟨114,[(2,.p (.int .i64 x2)),(9,.ptr 30000 0),(10,.p (.int .i64 x10)),(11,.ptr 30002 0),(87,.sl 11 (rowsOf encT39 x87)),(88,.p (.int .i64 x88)),(89,.p (.int .i64 x89))],[(30000,.box 26 [.p (.int .i64 h0_),.p (.int .u32 h0__1),.sl 4 (rowsOf encT65 h0__2),.own 30001]),(30001,.row true 11 39 (rowsOf encT39 h1_)),(30002,.box 26 [.p (.int .i64 h2_),.p (.int .u32 h2__1),.sl 4 (rowsOf encT65 h2__2),.own 104]),(104,.row true 11 39 (rowsOf encT39 m104))]⟩ : St) = some r.st := by
 unfold f6_aiirrzaiirrzi_l6_j2 at hF
 cases hF
 simp (maxSteps:=999999) (disch:=first|exact D (by decide)|exact K (by kernel_rfl)) only [E,EE,↓reduceIte,simprocAttr,rg B6 [2,2,2,1,2,2,1,2,2,2,2,2,2,2,2,2,2] 25 false rfl,hr_6_25,R6_aiirrzaiirrzi_l6.st]
noncomputable def f6_aiirrzaiirrzi_l6_j3 (k:Nat) (x2 x10:Int) (x87:List T39) (x88 x89:Int) (x99:Bool) (h0_ h0__1:Int) (h0__2:List T65) (h1_:List T39) (h2_ h2__1:Int) (h2__2:List T65) (h3_:List T39) (m13 m13_1 m13_2 m13_3 m13_4 m13_5 m13_6 m13_7 m13_8 m13_9:Int) (m13_10:List Int) : Option R6_aiirrzaiirrzi_l6 :=
 some (R6_aiirrzaiirrzi_l6.o1 x2 x10 x87 x88 (IntKind.i64.wrap (x89 + (1:Int))) h0_ h0__1 h0__2 h1_ h2_ h2__1 h2__2 h3_)
theorem f6_aiirrzaiirrzi_l6_j3_ok (k:Nat) (x2 x10:Int) (x87:List T39) (x88 x89:Int) (x99:Bool) (h0_ h0__1:Int) (h0__2:List T65) (h1_:List T39) (h2_ h2__1:Int) (h2__2:List T65) (h3_:List T39) (m13 m13_1 m13_2 m13_3 m13_4 m13_5 m13_6 m13_7 m13_8 m13_9:Int) (m13_10:List Int) (r:R6_aiirrzaiirrzi_l6) (hF:f6_aiirrzaiirrzi_l6_j3 k x2 x10 x87 x88 x89 x99 h0_ h0__1 h0__2 h1_ h2_ h2__1 h2__2 h3_ m13 m13_1 m13_2 m13_3 m13_4 m13_5 m13_6 m13_7 m13_8 m13_9 m13_10 = some r) : EX 6 k (nav B6 [2,2,2,1,2,2,1,2,2,2,2,2,2,2,2,2,2]) (⟨114,[(2,.p (.int .i64 x2)),(9,.ptr 30000 0),(10,.p (.int .i64 x10)),(11,.ptr 30002 0),(13,.ptr 13 0),(87,.sl 11 (rowsOf encT39 x87)),(88,.p (.int .i64 x88)),(89,.p (.int .i64 x89)),(99,.p (.bool x99))],[(30000,.box 26 [.p (.int .i64 h0_),.p (.int .u32 h0__1),.sl 4 (rowsOf encT65 h0__2),.own 30001]),(30001,.row true 11 39 (rowsOf encT39 h1_)),(30002,.box 26 [.p (.int .i64 h2_),.p (.int .u32 h2__1),.sl 4 (rowsOf encT65 h2__2),.own 30003]),(30003,.row true 11 39 (rowsOf encT39 h3_)),(13,.box 39 [.p (.int .i64 m13),.p (.int .i64 m13_1),.p (.int .u32 m13_2),.p (.int .i64 m13_3),.p (.int .i64 m13_4),.p (.int .i64 m13_5),.p (.int .i64 m13_6),.p (.int .i64 m13_7),.p (.int .i64 m13_8),.p (.int .i64 m13_9),.sl 1 (rowsOf (encI .u8) m13_10)])]⟩ : St) = some r.st := by
 unfold f6_aiirrzaiirrzi_l6_j3 at hF
 cases hF
 simp (maxSteps:=999999) (disch:=first|exact D (by decide)|exact K (by kernel_rfl)) only [E,EE,↓reduceIte,simprocAttr,rg B6 [2,2,2,1,2,2,1,2,2,2,2,2,2,2,2,2,2] 25 false rfl,hr_6_25,R6_aiirrzaiirrzi_l6.st]
noncomputable def f6_aiirrzaiirrzi_l6_j1 (k:Nat) (x2 x10:Int) (x87:List T39) (x88 x89:Int) (x90:Bool) (h0_ h0__1:Int) (h0__2:List T65) (h1_:List T39) (h2_ h2__1:Int) (h2__2:List T65) (h3_:List T39) : Option R6_aiirrzaiirrzi_l6 :=
 ifE ((0:Int) ≤ x89) (
  Option.bind (x87[(Int.toNat x89)]?) fun v2 =>
   cond ((decide (x2 < (IntKind.i64.wrap (v2.Created + v2.Lifetime)))))
    (
     ifE (((List.length h3_) + 1) * 104 ≤ roomy) (
      f6_aiirrzaiirrzi_l6_j2 k x2 x10 x87 x88 x89 h0_ h0__1 h0__2 h1_ h2_ h2__1 h2__2 (h3_ ++ ([v2] : List T39))))
    (f6_aiirrzaiirrzi_l6_j3 k x2 x10 x87 x88 x89 false h0_ h0__1 h0__2 h1_ h2_ h2__1 h2__2 h3_ v2.Source v2.Dest v2.Seq v2.Created v2.Lifetime v2.HopLimit v2.Hops v2.Priority v2.Offset v2.Total v2.Payload))
theorem f6_aiirrzaiirrzi_l6_j1_ok (k:Nat) (x2 x10:Int) (x87:List T39) (x88 x89:Int) (x90:Bool) (h0_ h0__1:Int) (h0__2:List T65) (h1_:List T39) (h2_ h2__1:Int) (h2__2:List T65) (h3_:List T39) (r:R6_aiirrzaiirrzi_l6) (hF:f6_aiirrzaiirrzi_l6_j1 k x2 x10 x87 x88 x89 x90 h0_ h0__1 h0__2 h1_ h2_ h2__1 h2__2 h3_ = some r) : EX 6 k (nav B6 [2,2,1,2,2,1,2,2,2,2,2,2,2,2,2,2]) (⟨114,[(2,.p (.int .i64 x2)),(9,.ptr 30000 0),(10,.p (.int .i64 x10)),(11,.ptr 30002 0),(87,.sl 11 (rowsOf encT39 x87)),(88,.p (.int .i64 x88)),(89,.p (.int .i64 x89)),(90,.p (.bool x90))],[(30000,.box 26 [.p (.int .i64 h0_),.p (.int .u32 h0__1),.sl 4 (rowsOf encT65 h0__2),.own 30001]),(30001,.row true 11 39 (rowsOf encT39 h1_)),(30002,.box 26 [.p (.int .i64 h2_),.p (.int .u32 h2__1),.sl 4 (rowsOf encT65 h2__2),.own 30003]),(30003,.row true 11 39 (rowsOf encT39 h3_))]⟩ : St) = some r.st := by
 unfold f6_aiirrzaiirrzi_l6_j1 at hF
 obtain ⟨h1,hF⟩ := ifE_some.1 hF
 obtain ⟨v2,h3,hF⟩ := bs hF
 simp (maxSteps:=999999) (disch:=first|exact D (by decide)|exact K (by kernel_rfl)) only [E,EE,↓reduceIte,simprocAttr,xk B6 [2,2,1,2,2,1,2,2,2,2,2,2,2,2,2,2] .sq rfl,xk B6 [1,2,2,1,2,2,1,2,2,2,2,2,2,2,2,2,2] (.bk 2) rfl,xk B6 [2,1,2,2,1,2,2,1,2,2,2,2,2,2,2,2,2,2] .sq rfl,rg B6 [1,2,1,2,2,1,2,2,1,2,2,2,2,2,2,2,2,2,2] 22 false rfl,hr_6_22,indexAddrV,t_24,t_39,encT39_eq,xk B6 [2,2,1,2,2,1,2,2,1,2,2,2,2,2,2,2,2,2,2] .sq rfl,rg B6 [1,2,2,1,2,2,1,2,2,1,2,2,2,2,2,2,2,2,2,2] 23 false rfl,hr_6_23,fieldAddrV,t_3,xk B6 [2,2,2,1,2,2,1,2,2,1,2,2,2,2,2,2,2,2,2,2] (.cd 99) rfl,h1,h3]
 rcases cond_some hF with ⟨h4,hF⟩ | ⟨h4,hF⟩
 ·have q5 : [[.p (.int .i64 v2.Source),.p (.int .i64 v2.Dest),.p (.int .u32 v2.Seq),.p (.int .i64 v2.Created),.p (.int .i64 v2.Lifetime),.p (.int .i64 v2.HopLimit),.p (.int .i64 v2.Hops),.p (.int .i64 v2.Priority),.p (.int .i64 v2.Offset),.p (.int .i64 v2.Total),.sl 1 (rowsOf (encI .u8) v2.Payload)]] = rowsOf encT39 ([v2] : List T39) := rfl
  have q6 : List.map (tell [0,0,0,0,0,0,0,0,0,0,1]) (rowsOf encT39 ([v2] : List T39)) = rowsOf encT39 ([v2] : List T39) := rfl
  obtain ⟨h7,hF⟩ := ifE_some.1 hF
  have hJ := f6_aiirrzaiirrzi_l6_j2_ok k x2 x10 x87 x88 x89 h0_ h0__1 h0__2 h1_ h2_ h2__1 h2__2 (h3_ ++ ([v2] : List T39)) _ hF
  simp (maxSteps:=999999) (disch:=first|exact D (by decide)|exact K (by kernel_rfl)) only [E,EE,↓reduceIte,simprocAttr,rg B6 [2,2,2,2,1,2,2,1,2,2,1,2,2,2,2,2,2,2,2,2,2] 24 false rfl,hr_6_24,fieldAddrV,t_26,t_24,t_39,buildSliceV,fillRows,sm_39,appendV,content,h1,h3,h4,q5,q6,h7]
  try simp only [NM,EE] at hJ
  exact hJ
 ·have hJ := f6_aiirrzaiirrzi_l6_j3_ok k x2 x10 x87 x88 x89 false h0_ h0__1 h0__2 h1_ h2_ h2__1 h2__2 h3_ v2.Source v2.Dest v2.Seq v2.Created v2.Lifetime v2.HopLimit v2.Hops v2.Priority v2.Offset v2.Total v2.Payload _ hF
  simp (maxSteps:=999999) (disch:=first|exact D (by decide)|exact K (by kernel_rfl)) only [E,EE,↓reduceIte,simprocAttr,xk B6 [3,2,2,2,1,2,2,1,2,2,1,2,2,2,2,2,2,2,2,2,2] .sk rfl,h1,h3,h4]
  try simp only [NM,EE] at hJ
  exact hJ
noncomputable def f6_aiirrzaiirrzi_l6_b (k:Nat) (x2 x10:Int) (x87:List T39) (x88 x89 h0_ h0__1:Int) (h0__2:List T65) (h1_:List T39) (h2_ h2__1:Int) (h2__2:List T65) (h3_:List T39) : Option R6_aiirrzaiirrzi_l6 :=
 cond ((decide (x89 < x88)))
  (f6_aiirrzaiirrzi_l6_j1 k x2 x10 x87 x88 x89 true h0_ h0__1 h0__2 h1_ h2_ h2__1 h2__2 h3_)
  (some (R6_aiirrzaiirrzi_l6.o2 x2 x10 x87 x88 x89 false h0_ h0__1 h0__2 h1_ h2_ h2__1 h2__2 h3_))
theorem f6_aiirrzaiirrzi_l6_b_ok (k:Nat) (x2 x10:Int) (x87:List T39) (x88 x89 h0_ h0__1:Int) (h0__2:List T65) (h1_:List T39) (h2_ h2__1:Int) (h2__2:List T65) (h3_:List T39) (r:R6_aiirrzaiirrzi_l6) (hF:f6_aiirrzaiirrzi_l6_b k x2 x10 x87 x88 x89 h0_ h0__1 h0__2 h1_ h2_ h2__1 h2__2 h3_ = some r) : EX 6 k (nav B6 [1,2,2,1,2,2,2,2,2,2,2,2,2,2]) (⟨114,[(2,.p (.int .i64 x2)),(9,.ptr 30000 0),(10,.p (.int .i64 x10)),(11,.ptr 30002 0),(87,.sl 11 (rowsOf encT39 x87)),(88,.p (.int .i64 x88)),(89,.p (.int .i64 x89))],[(30000,.box 26 [.p (.int .i64 h0_),.p (.int .u32 h0__1),.sl 4 (rowsOf encT65 h0__2),.own 30001]),(30001,.row true 11 39 (rowsOf encT39 h1_)),(30002,.box 26 [.p (.int .i64 h2_),.p (.int .u32 h2__1),.sl 4 (rowsOf encT65 h2__2),.own 30003]),(30003,.row true 11 39 (rowsOf encT39 h3_))]⟩ : St) = some r.st := by
 unfold f6_aiirrzaiirrzi_l6_b at hF
 simp (maxSteps:=999999) (disch:=first|exact D (by decide)|exact K (by kernel_rfl)) only [E,EE,↓reduceIte,simprocAttr,xk B6 [1,2,2,1,2,2,2,2,2,2,2,2,2,2] .sq rfl,rg B6 [1,1,2,2,1,2,2,2,2,2,2,2,2,2,2] 21 false rfl,hr_6_21,xk B6 [2,1,2,2,1,2,2,2,2,2,2,2,2,2,2] .sq rfl,xk B6 [1,2,1,2,2,1,2,2,2,2,2,2,2,2,2,2] (.cd 90) rfl]
 rcases cond_some hF with ⟨h1,hF⟩ | ⟨h1,hF⟩
 ·have hJ := f6_aiirrzaiirrzi_l6_j1_ok k x2 x10 x87 x88 x89 true h0_ h0__1 h0__2 h1_ h2_ h2__1 h2__2 h3_ _ hF
  simp (maxSteps:=999999) (disch:=first|exact D (by decide)|exact K (by kernel_rfl)) only [E,EE,↓reduceIte,simprocAttr,xk B6 [2,1,2,1,2,2,1,2,2,2,2,2,2,2,2,2,2] .sk rfl,h1]
  try simp only [NM,EE] at hJ
  exact hJ
 ·cases hF
  simp (maxSteps:=999999) (disch:=first|exact D (by decide)|exact K (by kernel_rfl)) only [E,EE,↓reduceIte,simprocAttr,xk B6 [3,1,2,1,2,2,1,2,2,2,2,2,2,2,2,2,2] (.ex 1) rfl,R6_aiirrzaiirrzi_l6.st,h1]
noncomputable def f6_aiirrzaiirrzi_l6 (k:Nat) : Nat → Int → Int → (List T39) → Int → Int → Int → Int → (List T65) → (List T39) → Int → Int → (List T65) → (List T39) → Option R6_aiirrzaiirrzi_l6
 | 0,_,_,_,_,_,_,_,_,_,_,_,_,_ => none
 | n + 1,x2,x10,x87,x88,x89,h0_,h0__1,h0__2,h1_,h2_,h2__1,h2__2,h3_ => Option.bind (f6_aiirrzaiirrzi_l6_b k x2 x10 x87 x88 x89 h0_ h0__1 h0__2 h1_ h2_ h2__1 h2__2 h3_) fun o =>
  match o with
  | .o0 y y_1 y_2 y_3 y_4 y_5 y_6 y_7 y_8 y_9 y_10 y_11 y_12 => f6_aiirrzaiirrzi_l6 k n y y_1 y_2 y_3 y_4 y_5 y_6 y_7 y_8 y_9 y_10 y_11 y_12
  | .o1 y y_1 y_2 y_3 y_4 y_5 y_6 y_7 y_8 y_9 y_10 y_11 y_12 => f6_aiirrzaiirrzi_l6 k n y y_1 y_2 y_3 y_4 y_5 y_6 y_7 y_8 y_9 y_10 y_11 y_12
  | .o2 y y_1 y_2 y_3 y_4 y_5 y_6 y_7 y_8 y_9 y_10 y_11 y_12 y_13 => some (.o2 y y_1 y_2 y_3 y_4 y_5 y_6 y_7 y_8 y_9 y_10 y_11 y_12 y_13)
theorem f6_aiirrzaiirrzi_l6_ok (k n:Nat) : ∀ (x2 x10:Int) (x87:List T39) (x88 x89 h0_ h0__1:Int) (h0__2:List T65) (h1_:List T39) (h2_ h2__1:Int) (h2__2:List T65) (h3_:List T39) (r:R6_aiirrzaiirrzi_l6) (hF:f6_aiirrzaiirrzi_l6 k n x2 x10 x87 x88 x89 h0_ h0__1 h0__2 h1_ h2_ h2__1 h2__2 h3_ = some r) (σ:St) (hσ:headR (hints.head 6 21) (hints.canon 6 21) σ = some (⟨114,[(2,.p (.int .i64 x2)),(9,.ptr 30000 0),(10,.p (.int .i64 x10)),(11,.ptr 30002 0),(87,.sl 11 (rowsOf encT39 x87)),(88,.p (.int .i64 x88)),(89,.p (.int .i64 x89))],[(30000,.box 26 [.p (.int .i64 h0_),.p (.int .u32 h0__1),.sl 4 (rowsOf encT65 h0__2),.own 30001]),(30001,.row true 11 39 (rowsOf encT39 h1_)),(30002,.box 26 [.p (.int .i64 h2_),.p (.int .u32 h2__1),.sl 4 (rowsOf encT65 h2__2),.own 30003]),(30003,.row true 11 39 (rowsOf encT39 h3_))]⟩ : St)),LP 6 k (nav B6 [1,2,2,1,2,2,2,2,2,2,2,2,2,2]) n σ = some r.st := by
 induction n with
 | zero => intro x2 x10 x87 x88 x89 h0_ h0__1 h0__2 h1_ h2_ h2__1 h2__2 h3_ r hF; cases hF
 | succ n ih =>
  intro x2 x10 x87 x88 x89 h0_ h0__1 h0__2 h1_ h2_ h2__1 h2__2 h3_ r hF σ hσ
  rw [f6_aiirrzaiirrzi_l6] at hF
  obtain ⟨o,h,hF⟩ := Option.bind_eq_some_iff.1 hF
  have hB := f6_aiirrzaiirrzi_l6_b_ok k x2 x10 x87 x88 x89 h0_ h0__1 h0__2 h1_ h2_ h2__1 h2__2 h3_ o h
  unfold LP at ih ⊢
  unfold EX at hB
  rw [loopK_succ,show firstReg (nav B6 [1,2,2,1,2,2,2,2,2,2,2,2,2,2]) = 21 from rfl,hσ,headK_some,hB]
  cases o with
  | o0 y y_1 y_2 y_3 y_4 y_5 y_6 y_7 y_8 y_9 y_10 y_11 y_12 =>
   refine ih y y_1 y_2 y_3 y_4 y_5 y_6 y_7 y_8 y_9 y_10 y_11 y_12 r hF _ ?_
   simp (maxSteps:=999999) (disch:=first|exact D (by decide)|exact K (by kernel_rfl)) only [E,EE,↓reduceIte,simprocAttr,hh_6_21,hc_6_21]
  | o1 y y_1 y_2 y_3 y_4 y_5 y_6 y_7 y_8 y_9 y_10 y_11 y_12 =>
   refine ih y y_1 y_2 y_3 y_4 y_5 y_6 y_7 y_8 y_9 y_10 y_11 y_12 r hF _ ?_
   simp (maxSteps:=999999) (disch:=first|exact D (by decide)|exact K (by kernel_rfl)) only [E,EE,↓reduceIte,simprocAttr,hh_6_21,hc_6_21]
  | o2 y y_1 y_2 y_3 y_4 y_5 y_6 y_7 y_8 y_9 y_10 y_11 y_12 y_13 => cases hF; rfl
noncomputable def f6_aiirrzaiirrzi_j7 (k:Nat) (x2 x10:Int) (x87:List T39) (x88 x89:Int) (x90:Bool) (h0_ h0__1:Int) (h0__2:List T65) (h1_:List T39) (h2_ h2__1:Int) (h2__2:List T65) (h3_:List T39) : Option R6_aiirrzaiirrzi :=
 cond ((x10 == 0))
  (
   Option.bind (f15_aiirrzaiirrz k h0_ h0__1 h0__2 h1_ h2_ h2__1 h2__2 h3_) fun o2 =>
    match o2 with
    | .o0 v5 =>
     some (R6_aiirrzaiirrzi.o0 v5))
  (some (R6_aiirrzaiirrzi.o0 false))
theorem f6_aiirrzaiirrzi_j7_ok (k:Nat) (x2 x10:Int) (x87:List T39) (x88 x89:Int) (x90:Bool) (h0_ h0__1:Int) (h0__2:List T65) (h1_:List T39) (h2_ h2__1:Int) (h2__2:List T65) (h3_:List T39) (r:R6_aiirrzaiirrzi) (hF:f6_aiirrzaiirrzi_j7 k x2 x10 x87 x88 x89 x90 h0_ h0__1 h0__2 h1_ h2_ h2__1 h2__2 h3_ = some r) : finK Try.prog Try.f6 0 (EX 6 k (nav B6 [2,2,2,2,2,2,2,2,2,2,2]) (⟨114,[(2,.p (.int .i64 x2)),(9,.ptr 30000 0),(10,.p (.int .i64 x10)),(11,.ptr 30002 0),(87,.sl 11 (rowsOf encT39 x87)),(88,.p (.int .i64 x88)),(89,.p (.int .i64 x89)),(90,.p (.bool x90))],[(30000,.box 26 [.p (.int .i64 h0_),.p (.int .u32 h0__1),.sl 4 (rowsOf encT65 h0__2),.own 30001]),(30001,.row true 11 39 (rowsOf encT39 h1_)),(30002,.box 26 [.p (.int .i64 h2_),.p (.int .u32 h2__1),.sl 4 (rowsOf encT65 h2__2),.own 30003]),(30003,.row true 11 39 (rowsOf encT39 h3_))]⟩ : St)) = some r.st := by
 unfold f6_aiirrzaiirrzi_j7 at hF
 simp (maxSteps:=999999) (disch:=first|exact D (by decide)|exact K (by kernel_rfl)) only [E,EE,↓reduceIte,simprocAttr,xk B6 [2,2,2,2,2,2,2,2,2,2,2] .sq rfl,rg B6 [1,2,2,2,2,2,2,2,2,2,2,2] 26 false rfl,hr_6_26]
 rcases cond_some hF with ⟨h1,hF⟩ | ⟨h1,hF⟩
 ·obtain ⟨o2,h3,hF⟩ := bs hF
  have hc4 := f15_aiirrzaiirrz_ok k h0_ h0__1 h0__2 h1_ h2_ h2__1 h2__2 h3_ _ h3
  cases o2 with
  | o0 v5 =>
   (try dsimp only at hF)
   (try simp only [NM,EE,R15_aiirrzaiirrz.st] at hc4)
   cases hF
   simp (maxSteps:=999999) (disch:=first|exact D (by decide)|exact K (by kernel_rfl)) only [E,EE,↓reduceIte,simprocAttr,t_26,callStep,CL,gv,List.contains,xk B6 [2,2,2,2,2,2,2,2,2,2,2,2] .rt rfl,finK_norm,finK_ret,fin6,R6_aiirrzaiirrzi.st,h1,hc4]
 ·cases hF
  simp (maxSteps:=999999) (disch:=first|exact D (by decide)|exact K (by kernel_rfl)) only [E,EE,↓reduceIte,simprocAttr,xk B6 [2,2,2,2,2,2,2,2,2,2,2,2] .rt rfl,finK_norm,finK_ret,fin6,R6_aiirrzaiirrzi.st,h1]
noncomputable def f6_aiirrzaiirrzi_j5 (k:Nat) (x2 x10:Int) (x74:Bool) (m3 m3_1:Int) (m3_2:List T65) (m3_3:List T39) (m9 m9_1:Int) (m9_2:List T65) (m64:List T39) : Option R6_aiirrzaiirrzi :=
 Option.bind (f6_aiirrzaiirrzi_l6 k k x2 x10 m3_3 ((List.length m3_3) : Int) 0 m9 m9_1 m9_2 m64 m3 m3_1 m3_2 []) fun o1 =>
  match o1 with
  | .o0 _ _ _ _ _ _ _ _ _ _ _ _ _ =>
   none
  | .o1 _ _ _ _ _ _ _ _ _ _ _ _ _ =>
   none
  | .o2 v4 v5 v6 v7 v8 v9 v10 v11 v12 v13 v14 v15 v16 v17 =>
   f6_aiirrzaiirrzi_j7 k v4 v5 v6 v7 v8 v9 v10 v11 v12 v13 v14 v15 v16 v17
theorem f6_aiirrzaiirrzi_j5_ok (k:Nat) (x2 x10:Int) (x74:Bool) (m3 m3_1:Int) (m3_2:List T65) (m3_3:List T39) (m9 m9_1:Int) (m9_2:List T65) (m64:List T39) (r:R6_aiirrzaiirrzi) (hF:f6_aiirrzaiirrzi_j5 k x2 x10 x74 m3 m3_1 m3_2 m3_3 m9 m9_1 m9_2 m64 = some r) : finK Try.prog Try.f6 0 (EX 6 k (nav B6 [2,2,2,2,2,2,2,2]) (⟨114,[(2,.p (.int .i64 x2)),(3,.ptr 3 0),(9,.ptr 9 0),(10,.p (.int .i64 x10)),(74,.p (.bool x74))],[(3,.box 26 [.p (.int .i64 m3),.p (.int .u32 m3_1),.sl 4 (rowsOf encT65 m3_2),.sl 11 (rowsOf encT39 m3_3)]),(9,.box 26 [.p (.int .i64 m9),.p (.int .u32 m9_1),.sl 4 (rowsOf encT65 m9_2),.own 64]),(64,.row true 11 39 (rowsOf encT39 m64))]⟩ : St)) = some r.st := by
 unfold f6_aiirrzaiirrzi_j5 at hF
 obtain ⟨o1,h2,hF⟩ := bs hF
 have hc3 := f6_aiirrzaiirrzi_l6_ok k k x2 x10 m3_3 ((List.length m3_3) : Int) 0 m9 m9_1 m9_2 m64 m3 m3_1 m3_2 [] _ h2
 simp (maxSteps:=999999) (disch:=first|exact D (by decide)|exact K (by kernel_rfl)) only [E,EE,↓reduceIte,simprocAttr,xk B6 [2,2,2,2,2,2,2,2] .sq rfl,rg B6 [1,2,2,2,2,2,2,2,2] 18 false rfl,hr_6_18,t_26,xk B6 [2,2,2,2,2,2,2,2,2] .sq rfl,rg B6 [1,2,2,2,2,2,2,2,2,2] 19 false rfl,hr_6_19,fieldAddrV,t_24,xk B6 [2,2,2,2,2,2,2,2,2,2] .sq rfl,xk B6 [1,2,2,2,2,2,2,2,2,2,2] .sq rfl,rg B6 [1,1,2,2,2,2,2,2,2,2,2,2] 20 false rfl,hr_6_20,xk B6 [2,1,2,2,2,2,2,2,2,2,2,2] (.bk 1) rfl,xk B6 [2,2,1,2,2,2,2,2,2,2,2,2,2] .lp rfl,hh_6_21,hc_6_21]
 (try simp only [NM,EE] at hc3)
 rw [hc3 _ (by simp (maxSteps:=999999) (disch:=first|exact D (by decide)|exact K (by kernel_rfl)) only [E,EE,↓reduceIte,simprocAttr,hh_6_21,hc_6_21])]
 clear hc3
 cases o1 with
 | o0 _ _ _ _ _ _ _ _ _ _ _ _ _ =>
  (try dsimp only at hF)
  cases hF
 | o1 _ _ _ _ _ _ _ _ _ _ _ _ _ =>
  (try dsimp only at hF)
  cases hF
 | o2 v4 v5 v6 v7 v8 v9 v10 v11 v12 v13 v14 v15 v16 v17 =>
  (try dsimp only at hF)
  have hJ := f6_aiirrzaiirrzi_j7_ok k v4 v5 v6 v7 v8 v9 v10 v11 v12 v13 v14 v15 v16 v17 _ hF
  simp (maxSteps:=999999) (disch:=first|exact D (by decide)|exact K (by kernel_rfl)) only [E,EE,↓reduceIte,simprocAttr,R6_aiirrzaiirrzi_l6.st]
  try simp only [NM,EE] at hJ
  exact hJ
inductive R6_aiirrzaiirrzi_l9 where
 | o0 (y y_1:Int) (y_2:List T39) (y_3 y_4 y_5 y_6:Int) (y_7:List T65) (y_8:List T39) (y_9 y_10:Int) (y_11:List T65) (y_12:List T39)
 | o1 (y y_1:Int) (y_2:List T39) (y_3 y_4 y_5 y_6:Int) (y_7:List T65) (y_8:List T39) (y_9 y_10:Int) (y_11:List T65) (y_12:List T39)
 | o2 (y y_1:Int) (y_2:List T39) (y_3 y_4:Int) (y_5:Bool) (y_6 y_7:Int) (y_8:List T65) (y_9:List T39) (y_10 y_11:Int) (y_12:List T65) (y_13:List T39)
noncomputable def R6_aiirrzaiirrzi_l9.st : R6_aiirrzaiirrzi_l9 → Out × St
 | .o0 y y_1 y_2 y_3 y_4 y_5 y_6 y_7 y_8 y_9 y_10 y_11 y_12 => (.norm,(⟨114,[(2,.p (.int .i64 y)),(9,.ptr 30000 0),(10,.p (.int .i64 y_1)),(11,.ptr 30003 0),(87,.sl 11 (rowsOf encT39 y_2)),(88,.p (.int .i64 y_3)),(89,.p (.int .i64 y_4))],[(30000,.box 26 [.p (.int .i64 y_5),.p (.int .u32 y_6),.own 30001,.own 30002]),(30001,.row true 4 65 (rowsOf encT65 y_7)),(30002,.row true 11 39 (rowsOf encT39 y_8)),(30003,.box 26 [.p (.int .i64 y_9),.p (.int .u32 y_10),.sl 4 (rowsOf encT65 y_11),.own 104]),(104,.row true 11 39 (rowsOf encT39 y_12))]⟩ : St))
 | .o1 y y_1 y_2 y_3 y_4 y_5 y_6 y_7 y_8 y_9 y_10 y_11 y_12 => (.norm,(⟨114,[(2,.p (.int .i64 y)),(9,.ptr 30000 0),(10,.p (.int .i64 y_1)),(11,.ptr 30003 0),(87,.sl 11 (rowsOf encT39 y_2)),(88,.p (.int .i64 y_3)),(89,.p (.int .i64 y_4))],[(30000,.box 26 [.p (.int .i64 y_5),.p (.int .u32 y_6),.own 30001,.own 30002]),(30001,.row true 4 65 (rowsOf encT65 y_7)),(30002,.row true 11 39 (rowsOf encT39 y_8)),(30003,.box 26 [.p (.int .i64 y_9),.p (.int .u32 y_10),.sl 4 (rowsOf encT65 y_11),.own 30004]),(30004,.row true 11 39 (rowsOf encT39 y_12))]⟩ : St))
 | .o2 y y_1 y_2 y_3 y_4 y_5 y_6 y_7 y_8 y_9 y_10 y_11 y_12 y_13 => (.exit 1,(⟨114,[(2,.p (.int .i64 y)),(9,.ptr 30000 0),(10,.p (.int .i64 y_1)),(11,.ptr 30003 0),(87,.sl 11 (rowsOf encT39 y_2)),(88,.p (.int .i64 y_3)),(89,.p (.int .i64 y_4)),(90,.p (.bool y_5))],[(30000,.box 26 [.p (.int .i64 y_6),.p (.int .u32 y_7),.own 30001,.own 30002]),(30001,.row true 4 65 (rowsOf encT65 y_8)),(30002,.row true 11 39 (rowsOf encT39 y_9)),(30003,.box 26 [.p (.int .i64 y_10),.p (.int .u32 y_11),.sl 4 (rowsOf encT65 y_12),.own 30004]),(30004,.row true 11 39 (rowsOf encT39 y_13))]⟩ : St))
noncomputable def f6_aiirrzaiirrzi_l9_j2 (k:Nat) (x2 x10:Int) (x87:List T39) (x88 x89 h0_ h0__1:Int) (h1_:List T65) (h2_:List T39) (h3_ h3__1:Int) (h3__2:List T65) (m104:List T39) : Option R6_aiirrzaiirrzi_l9 :=
 some (R6_aiirrzaiirrzi_l9.o0 x2 x10 x87 x88 (IntKind.i64.wrap (x89 + (1:Int))) h0_ h0__1 h1_ h2_ h3_ h3__1 h3__2 m104)
theorem f6_aiirrzaiirrzi_l9_j2_ok (k:Nat) (x2 x10:Int) (x87:List T39) (x88 x89 h0_ h0__1:Int) (h1_:List T65) (h2_:List T39) (h3_ h3__1:Int) (h3__2:List T65) (m104:List T39) (r:R6_aiirrzaiirrzi_l9) (hF:f6_aiirrzaiirrzi_l9_j2 k x2 x10 x87 x88 x89 h0_ h0__1 h1_ h2_ h3_ h3__1 h3__2 m104 = some r) : EX 6 k (nav B6 [2,2,2,1,2,2,1,2,2,2,2,2,2,2,2,2,2]) (⟨114,[(2,.p (.int .i64 x2)),(9,.ptr 30000 0),(10,.p (.int .i64 x10)),(11,.ptr 30003 0),(87,.sl 11 (rowsOf encT39 x87)),(88,.p (.int .i64 x88)),(89,.p (.int .i64 x89))],[(30000,.box 26 [.p (.int .i64 h0_),.p (.int .u32 h0__1),.own 30001,.own 30002]),(30001,.row true 4 65 (rowsOf encT65 h1_)),(30002,.row true 11 39 (rowsOf encT39 h2_)),(30003,.box 26 [.p (.int .i64 h3_),.p (.int .u32 h3__1),.sl 4 (rowsOf encT65 h3__2),.own 104]),(104,.row true 11 39 (rowsOf encT39 m104))]⟩ : St) = some r.st := by
 unfold f6_aiirrzaiirrzi_l9_j2 at hF
 cases hF
 simp (maxSteps:=999999) (disch:=first|exact D (by decide)|exact K (by kernel_rfl)) only [E,EE,↓reduceIte,simprocAttr,rg B6 [2,2,2,1,2,2,1,2,2,2,2,2,2,2,2,2,2] 25 false rfl,hr_6_25,R6_aiirrzaiirrzi_l9.st]
noncomputable def f6_aiirrzaiirrzi_l9_j3 (k:Nat) (x2 x10:Int) (x87:List T39) (x88 x89:Int) (x99:Bool) (h0_ h0__1:Int) (h1_:List T65) (h2_:List T39) (h3_ h3__1:Int) (h3__2:List T65) (h4_:List T39) (m13 m13_1 m13_2 m13_3 m13_4 m13_5 m13_6 m13_7 m13_8 m13_9:Int) (m13_10:List Int) : Option R6_aiirrzaiirrzi_l9 :=
 some (R6_aiirrzaiirrzi_l9.o1 x2 x10 x87 x88 (IntKind.i64.wrap (x89 + (1:Int))) h0_ h0__1 h1_ h2_ h3_ h3__1 h3__2 h4_)
theorem f6_aiirrzaiirrzi_l9_j3_ok (k:Nat) (x2 x10:Int) (x87:List T39) (x88 x89:Int) (x99:Bool) (h0_ h0__1:Int) (h1_:List T65) (h2_:List T39) (h3_ h3__1:Int) (h3__2:List T65) (h4_:List T39) (m13 m13_1 m13_2 m13_3 m13_4 m13_5 m13_6 m13_7 m13_8 m13_9:Int) (m13_10:List Int) (r:R6_aiirrzaiirrzi_l9) (hF:f6_aiirrzaiirrzi_l9_j3 k x2 x10 x87 x88 x89 x99 h0_ h0__1 h1_ h2_ h3_ h3__1 h3__2 h4_ m13 m13_1 m13_2 m13_3 m13_4 m13_5 m13_6 m13_7 m13_8 m13_9 m13_10 = some r) : EX 6 k (nav B6 [2,2,2,1,2,2,1,2,2,2,2,2,2,2,2,2,2]) (⟨114,[(2,.p (.int .i64 x2)),(9,.ptr 30000 0),(10,.p (.int .i64 x10)),(11,.ptr 30003 0),(13,.ptr 13 0),(87,.sl 11 (rowsOf encT39 x87)),(88,.p (.int .i64 x88)),(89,.p (.int .i64 x89)),(99,.p (.bool x99))],[(30000,.box 26 [.p (.int .i64 h0_),.p (.int .u32 h0__1),.own 30001,.own 30002]),(30001,.row true 4 65 (rowsOf encT65 h1_)),(30002,.row true 11 39 (rowsOf encT39 h2_)),(30003,.box 26 [.p (.int .i64 h3_),.p (.int .u32 h3__1),.sl 4 (rowsOf encT65 h3__2),.own 30004]),(30004,.row true 11 39 (rowsOf encT39 h4_)),(13,.box 39 [.p (.int .i64 m13),.p (.int .i64 m13_1),.p (.int .u32 m13_2),.p (.int .i64 m13_3),.p (.int .i64 m13_4),.p (.int .i64 m13_5),.p (.int .i64 m13_6),.p (.int .i64 m13_7),.p (.int .i64 m13_8),.p (.int .i64 m13_9),.sl 1 (rowsOf (encI .u8) m13_10)])]⟩ : St) = some r.st := by
 unfold f6_aiirrzaiirrzi_l9_j3 at hF
 cases hF
 simp (maxSteps:=999999) (disch:=first|exact D (by decide)|exact K (by kernel_rfl)) only [E,EE,↓reduceIte,simprocAttr,rg B6 [2,2,2,1,2,2,1,2,2,2,2,2,2,2,2,2,2] 25 false rfl,hr_6_25,R6_aiirrzaiirrzi_l9.st]
noncomputable def f6_aiirrzaiirrzi_l9_j1 (k:Nat) (x2 x10:Int) (x87:List T39) (x88 x89:Int) (x90:Bool) (h0_ h0__1:Int) (h1_:List T65) (h2_:List T39) (h3_ h3__1:Int) (h3__2:List T65) (h4_:List T39) : Option R6_aiirrzaiirrzi_l9 :=
 ifE ((0:Int) ≤ x89) (
  Option.bind (x87[(Int.toNat x89)]?) fun v2 =>
   cond ((decide (x2 < (IntKind.i64.wrap (v2.Created + v2.Lifetime)))))
    (
     ifE (((List.length h4_) + 1) * 104 ≤ roomy) (
      f6_aiirrzaiirrzi_l9_j2 k x2 x10 x87 x88 x89 h0_ h0__1 h1_ h2_ h3_ h3__1 h3__2 (h4_ ++ ([v2] : List T39))))
    (f6_aiirrzaiirrzi_l9_j3 k x2 x10 x87 x88 x89 false h0_ h0__1 h1_ h2_ h3_ h3__1 h3__2 h4_ v2.Source v2.Dest v2.Seq v2.Created v2.Lifetime v2.HopLimit v2.Hops v2.Priority v2.Offset v2.Total v2.Payload))
theorem f6_aiirrzaiirrzi_l9_j1_ok (k:Nat) (x2 x10:Int) (x87:List T39) (x88 x89:Int) (x90:Bool) (h0_ h0__1:Int) (h1_:List T65) (h2_:List T39) (h3_ h3__1:Int) (h3__2:List T65) (h4_:List T39) (r:R6_aiirrzaiirrzi_l9) (hF:f6_aiirrzaiirrzi_l9_j1 k x2 x10 x87 x88 x89 x90 h0_ h0__1 h1_ h2_ h3_ h3__1 h3__2 h4_ = some r) : EX 6 k (nav B6 [2,2,1,2,2,1,2,2,2,2,2,2,2,2,2,2]) (⟨114,[(2,.p (.int .i64 x2)),(9,.ptr 30000 0),(10,.p (.int .i64 x10)),(11,.ptr 30003 0),(87,.sl 11 (rowsOf encT39 x87)),(88,.p (.int .i64 x88)),(89,.p (.int .i64 x89)),(90,.p (.bool x90))],[(30000,.box 26 [.p (.int .i64 h0_),.p (.int .u32 h0__1),.own 30001,.own 30002]),(30001,.row true 4 65 (rowsOf encT65 h1_)),(30002,.row true 11 39 (rowsOf encT39 h2_)),(30003,.box 26 [.p (.int .i64 h3_),.p (.int .u32 h3__1),.sl 4 (rowsOf encT65 h3__2),.own 30004]),(30004,.row true 11 39 (rowsOf encT39 h4_))]⟩ : St) = some r.st := by
 unfold f6_aiirrzaiirrzi_l9_j1 at hF
 obtain ⟨h1,hF⟩ := ifE_some.1 hF
 obtain ⟨v2,h3,hF⟩ := bs hF
 simp (maxSteps:=999999) (disch:=first|exact D (by decide)|exact K (by kernel_rfl)) only [E,EE,↓reduceIte,simprocAttr,xk B6 [2,2,1,2,2,1,2,2,2,2,2,2,2,2,2,2] .sq rfl,xk B6 [1,2,2,1,2,2,1,2,2,2,2,2,2,2,2,2,2] (.bk 2) rfl,xk B6 [2,1,2,2,1,2,2,1,2,2,2,2,2,2,2,2,2,2] .sq rfl,rg B6 [1,2,1,2,2,1,2,2,1,2,2,2,2,2,2,2,2,2,2] 22 false rfl,hr_6_22,indexAddrV,t_24,t_39,encT39_eq,xk B6 [2,2,1,2,2,1,2,2,1,2,2,2,2,2,2,2,2,2,2] .sq rfl,rg B6 [1,2,2,1,2,2,1,2,2,1,2,2,2,2,2,2,2,2,2,2] 23 false rfl,hr_6_23,fieldAddrV,t_3,xk B6 [2,2,2,1,2,2,1,2,2,1,2,2,2,2,2,2,2,2,2,2] (.cd 99) rfl,h1,h3]
 rcases cond_some hF with ⟨h4,hF⟩ | ⟨h4,hF⟩
 ·have q5 : [[.p (.int .i64 v2.Source),.p (.int .i64 v2.Dest),.p (.int .u32 v2.Seq),.p (.int .i64 v2.Created),.p (.int .i64 v2.Lifetime),.p (.int .i64 v2.HopLimit),.p (.int .i64 v2.Hops),.p (.int .i64 v2.Priority),.p (.int .i64 v2.Offset),.p (.int .i64 v2.Total),.sl 1 (rowsOf (encI .u8) v2.Payload)]] = rowsOf encT39 ([v2] : List T39) := rfl
  have q6 : List.map (tell [0,0,0,0,0,0,0,0,0,0,1]) (rowsOf encT39 ([v2] : List T39)) = rowsOf encT39 ([v2] : List T39) := rfl
  obtain ⟨h7,hF⟩ := ifE_some.1 hF
  have hJ := f6_aiirrzaiirrzi_l9_j2_ok k x2 x10 x87 x88 x89 h0_ h0__1 h1_ h2_ h3_ h3__1 h3__2 (h4_ ++ ([v2] : List T39)) _ hF
  simp (maxSteps:=999999) (disch:=first|exact D (by decide)|exact K (by kernel_rfl)) only [E,EE,↓reduceIte,simprocAttr,rg B6 [2,2,2,2,1,2,2,1,2,2,1,2,2,2,2,2,2,2,2,2,2] 24 false rfl,hr_6_24,fieldAddrV,t_26,t_24,t_39,buildSliceV,fillRows,sm_39,appendV,content,h1,h3,h4,q5,q6,h7]
  try simp only [NM,EE] at hJ
  exact hJ
 ·have hJ := f6_aiirrzaiirrzi_l9_j3_ok k x2 x10 x87 x88 x89 false h0_ h0__1 h1_ h2_ h3_ h3__1 h3__2 h4_ v2.Source v2.Dest v2.Seq v2.Created v2.Lifetime v2.HopLimit v2.Hops v2.Priority v2.Offset v2.Total v2.Payload _ hF
  simp (maxSteps:=999999) (disch:=first|exact D (by decide)|exact K (by kernel_rfl)) only [E,EE,↓reduceIte,simprocAttr,xk B6 [3,2,2,2,1,2,2,1,2,2,1,2,2,2,2,2,2,2,2,2,2] .sk rfl,h1,h3,h4]
  try simp only [NM,EE] at hJ
  exact hJ
noncomputable def f6_aiirrzaiirrzi_l9_b (k:Nat) (x2 x10:Int) (x87:List T39) (x88 x89 h0_ h0__1:Int) (h1_:List T65) (h2_:List T39) (h3_ h3__1:Int) (h3__2:List T65) (h4_:List T39) : Option R6_aiirrzaiirrzi_l9 :=
 cond ((decide (x89 < x88)))
  (f6_aiirrzaiirrzi_l9_j1 k x2 x10 x87 x88 x89 true h0_ h0__1 h1_ h2_ h3_ h3__1 h3__2 h4_)
  (some (R6_aiirrzaiirrzi_l9.o2 x2 x10 x87 x88 x89 false h0_ h0__1 h1_ h2_ h3_ h3__1 h3__2 h4_))
theorem f6_aiirrzaiirrzi_l9_b_ok (k:Nat) (x2 x10:Int) (x87:List T39) (x88 x89 h0_ h0__1:Int) (h1_:List T65) (h2_:List T39) (h3_ h3__1:Int) (h3__2:List T65) (h4_:List T39) (r:R6_aiirrzaiirrzi_l9) (hF:f6_aiirrzaiirrzi_l9_b k x2 x10 x87 x88 x89 h0_ h0__1 h1_ h2_ h3_ h3__1 h3__2 h4_ = some r) : EX 6 k (nav B6 [1,2,2,1,2,2,2,2,2,2,2,2,2,2]) (⟨114,[(2,.p (.int .i64 x2)),(9,.ptr 30000 0),(10,.p (.int .i64 x10)),(11,.ptr 30003 0),(87,.sl 11 (rowsOf encT39 x87)),(88,.p (.int .i64 x88)),(89,.p (.int .i64 x89))],[(30000,.box 26 [.p (.int .i64 h0_),.p (.int .u32 h0__1),.own 30001,.own 30002]),(30001,.row true 4 65 (rowsOf encT65 h1_)),(30002,.row true 11 39 (rowsOf encT39 h2_)),(30003,.box 26 [.p (.int .i64 h3_),.p (.int .u32 h3__1),.sl 4 (rowsOf encT65 h3__2),.own 30004]),(30004,.row true 11 39 (rowsOf encT39 h4_))]⟩ : St) = some r.st := by
 unfold f6_aiirrzaiirrzi_l9_b at hF
 simp (maxSteps:=999999) (disch:=first|exact D (by decide)|exact K (by kernel_rfl)) only [E,EE,↓reduceIte,simprocAttr,xk B6 [1,2,2,1,2,2,2,2,2,2,2,2,2,2] .sq rfl,rg B6 [1,1,2,2,1,2,2,2,2,2,2,2,2,2,2] 21 false rfl,hr_6_21,xk B6 [2,1,2,2,1,2,2,2,2,2,2,2,2,2,2] .sq rfl,xk B6 [1,2,1,2,2,1,2,2,2,2,2,2,2,2,2,2] (.cd 90) rfl]
 rcases cond_some hF with ⟨h1,hF⟩ | ⟨h1,hF⟩
 ·have hJ := f6_aiirrzaiirrzi_l9_j1_ok k x2 x10 x87 x88 x89 true h0_ h0__1 h1_ h2_ h3_ h3__1 h3__2 h4_ _ hF
  simp (maxSteps:=999999) (disch:=first|exact D (by decide)|exact K (by kernel_rfl)) only [E,EE,↓reduceIte,simprocAttr,xk B6 [2,1,2,1,2,2,1,2,2,2,2,2,2,2,2,2,2] .sk rfl,h1]
  try simp only [NM,EE] at hJ
  exact hJ
 ·cases hF
  simp (maxSteps:=999999) (disch:=first|exact D (by decide)|exact K (by kernel_rfl)) only [E,EE,↓reduceIte,simprocAttr,xk B6 [3,1,2,1,2,2,1,2,2,2,2,2,2,2,2,2,2] (.ex 1) rfl,R6_aiirrzaiirrzi_l9.st,h1]
noncomputable def f6_aiirrzaiirrzi_l9 (k:Nat) : Nat → Int → Int → (List T39) → Int → Int → Int → Int → (List T65) → (List T39) → Int → Int → (List T65) → (List T39) → Option R6_aiirrzaiirrzi_l9
 | 0,_,_,_,_,_,_,_,_,_,_,_,_,_ => none
 | n + 1,x2,x10,x87,x88,x89,h0_,h0__1,h1_,h2_,h3_,h3__1,h3__2,h4_ => Option.bind (f6_aiirrzaiirrzi_l9_b k x2 x10 x87 x88 x89 h0_ h0__1 h1_ h2_ h3_ h3__1 h3__2 h4_) fun o =>
  match o with
  | .o0 y y_1 y_2 y_3 y_4 y_5 y_6 y_7 y_8 y_9 y_10 y_11 y_12 => f6_aiirrzaiirrzi_l9 k n y y_1 y_2 y_3 y_4 y_5 y_6 y_7 y_8 y_9 y_10 y_11 y_12
  | .o1 y y_1 y_2 y_3 y_4 y_5 y_6 y_7 y_8 y_9 y_10 y_11 y_12 => f6_aiirrzaiirrzi_l9 k n y y_1 y_2 y_3 y_4 y_5 y_6 y_7 y_8 y_9 y_10 y_11 y_12
  | .o2 y y_1 y_2 y_3 y_4 y_5 y_6 y_7 y_8 y_9 y_10 y_11 y_12 y_13 => some (.o2 y y_1 y_2 y_3 y_4 y_5 y_6 y_7 y_8 y_9 y_10 y_11 y_12 y_13)
theorem f6_aiirrzaiirrzi_l9_ok (k n:Nat) : ∀ (x2 x10:Int) (x87:List T39) (x88 x89 h0_ h0__1:Int) (h1_:List T65) (h2_:List T39) (h3_ h3__1:Int) (h3__2:List T65) (h4_:List T39) (r:R6_aiirrzaiirrzi_l9) (hF:f6_aiirrzaiirrzi_l9 k n x2 x10 x87 x88 x89 h0_ h0__1 h1_ h2_ h3_ h3__1 h3__2 h4_ = some r) (σ:St) (hσ:headR (hints.head 6 21) (hints.canon 6 21) σ = some (⟨114,[(2,.p (.int .i64 x2)),(9,.ptr 30000 0),(10,.p (.int .i64 x10)),(11,.ptr 30003 0),(87,.sl 11 (rowsOf encT39 x87)),(88,.p (.int .i64 x88)),(89,.p (.int .i64 x89))],[(30000,.box 26 [.p (.int .i64 h0_),.p (.int .u32 h0__1),.own 30001,.own 30002]),(30001,.row true 4 65 (rowsOf encT65 h1_)),(30002,.row true 11 39 (rowsOf encT39 h2_)),(30003,.box 26 [.p (.int .i64 h3_),.p (.int .u32 h3__1),.sl 4 (rowsOf encT65 h3__2),.own 30004]),(30004,.row true 11 39 (rowsOf encT39 h4_))]⟩ : St)),LP 6 k (nav B6 [1,2,2,1,2,2,2,2,2,2,2,2,2,2]) n σ = some r.st := by
 induction n with
 | zero => intro x2 x10 x87 x88 x89 h0_ h0__1 h1_ h2_ h3_ h3__1 h3__2 h4_ r hF; cases hF
 | succ n ih =>
  intro x2 x10 x87 x88 x89 h0_ h0__1 h1_ h2_ h3_ h3__1 h3__2 h4_ r hF σ hσ
  rw [f6_aiirrzaiirrzi_l9] at hF
  obtain ⟨o,h,hF⟩ := Option.bind_eq_some_iff.1 hF
  have hB := f6_aiirrzaiirrzi_l9_b_ok k x2 x10 x87 x88 x89 h0_ h0__1 h1_ h2_ h3_ h3__1 h3__2 h4_ o h
  unfold LP at ih ⊢
  unfold EX at hB
  rw [loopK_succ,show firstReg (nav B6 [1,2,2,1,2,2,2,2,2,2,2,2,2,2]) = 21 from rfl,hσ,headK_some,hB]
  cases o with
  | o0 y y_1 y_2 y_3 y_4 y_5 y_6 y_7 y_8 y_9 y_10 y_11 y_12 =>
   refine ih y y_1 y_2 y_3 y_4 y_5 y_6 y_7 y_8 y_9 y_10 y_11 y_12 r hF _ ?_
   simp (maxSteps:=999999) (disch:=first|exact D (by decide)|exact K (by kernel_rfl)) only [E,EE,↓reduceIte,simprocAttr,hh_6_21,hc_6_21]
  | o1 y y_1 y_2 y_3 y_4 y_5 y_6 y_7 y_8 y_9 y_10 y_11 y_12 =>
   refine ih y y_1 y_2 y_3 y_4 y_5 y_6 y_7 y_8 y_9 y_10 y_11 y_12 r hF _ ?_
   simp (maxSteps:=999999) (disch:=first|exact D (by decide)|exact K (by kernel_rfl)) only [E,EE,↓reduceIte,simprocAttr,hh_6_21,hc_6_21]
  | o2 y y_1 y_2 y_3 y_4 y_5 y_6 y_7 y_8 y_9 y_10 y_11 y_12 y_13 => cases hF; rfl
noncomputable def f6_aiirrzaiirrzi_j10 (k:Nat) (x2 x10:Int) (x87:List T39) (x88 x89:Int) (x90:Bool) (h0_ h0__1:Int) (h1_:List T65) (h2_:List T39) (h3_ h3__1:Int) (h3__2:List T65) (h4_:List T39) : Option R6_aiirrzaiirrzi :=
 cond ((x10 == 0))
  (
   Option.bind (f15_aiirrzaiirrz k h0_ h0__1 h1_ h2_ h3_ h3__1 h3__2 h4_) fun o2 =>
    match o2 with
    | .o0 v5 =>
     some (R6_aiirrzaiirrzi.o0 v5))
  (some (R6_aiirrzaiirrzi.o0 false))
theorem f6_aiirrzaiirrzi_j10_ok (k:Nat) (x2 x10:Int) (x87:List T39) (x88 x89:Int) (x90:Bool) (h0_ h0__1:Int) (h1_:List T65) (h2_:List T39) (h3_ h3__1:Int) (h3__2:List T65) (h4_:List T39) (r:R6_aiirrzaiirrzi) (hF:f6_aiirrzaiirrzi_j10 k x2 x10 x87 x88 x89 x90 h0_ h0__1 h1_ h2_ h3_ h3__1 h3__2 h4_ = some r) : finK Try.prog Try.f6 0 (EX 6 k (nav B6 [2,2,2,2,2,2,2,2,2,2,2]) (⟨114,[(2,.p (.int .i64 x2)),(9,.ptr 30000 0),(10,.p (.int .i64 x10)),(11,.ptr 30003 0),(87,.sl 11 (rowsOf encT39 x87)),(88,.p (.int .i64 x88)),(89,.p (.int .i64 x89)),(90,.p (.bool x90))],[(30000,.box 26 [.p (.int .i64 h0_),.p (.int .u32 h0__1),.own 30001,.own 30002]),(30001,.row true 4 65 (rowsOf encT65 h1_)),(30002,.row true 11 39 (rowsOf encT39 h2_)),(30003,.box 26 [.p (.int .i64 h3_),.p (.int .u32 h3__1),.sl 4 (rowsOf encT65 h3__2),.own 30004]),(30004,.row true 11 39 (rowsOf encT39 h4_))]⟩ : St)) = some r.st := by
 unfold f6_aiirrzaiirrzi_j10 at hF
 simp (maxSteps:=999999) (disch:=first|exact D (by decide)|exact K (by kernel_rfl)) only [E,EE,↓reduceIte,simprocAttr,xk B6 [2,2,2,2,2,2,2,2,2,2,2] .sq rfl,rg B6 [1,2,2,2,2,2,2,2,2,2,2,2] 26 false rfl,hr_6_26]
 rcases cond_some hF with ⟨h1,hF⟩ | ⟨h1,hF⟩
 ·obtain ⟨o2,h3,hF⟩ := bs hF
  have hc4 := f15_aiirrzaiirrz_ok k h0_ h0__1 h1_ h2_ h3_ h3__1 h3__2 h4_ _ h3
  cases o2 with
  | o0 v5 =>
   (try dsimp only at hF)
   (try simp only [NM,EE,R15_aiirrzaiirrz.st] at hc4)
   cases hF
   simp (maxSteps:=999999) (disch:=first|exact D (by decide)|exact K (by kernel_rfl)) only [E,EE,↓reduceIte,simprocAttr,t_26,callStep,CL,gv,List.contains,xk B6 [2,2,2,2,2,2,2,2,2,2,2,2] .rt rfl,finK_norm,finK_ret,fin6,R6_aiirrzaiirrzi.st,h1,hc4]
 ·cases hF
  simp (maxSteps:=999999) (disch:=first|exact D (by decide)|exact K (by kernel_rfl)) only [E,EE,↓reduceIte,simprocAttr,xk B6 [2,2,2,2,2,2,2,2,2,2,2,2] .rt rfl,finK_norm,finK_ret,fin6,R6_aiirrzaiirrzi.st,h1]
noncomputable def f6_aiirrzaiirrzi_j8 (k:Nat) (x2 x10:Int) (x74:Bool) (m3 m3_1:Int) (m3_2:List T65) (m3_3:List T39) (m9 m9_1:Int) (m64:List T65) (m64_1_:List T39) : Option R6_aiirrzaiirrzi :=
 Option.bind (f6_aiirrzaiirrzi_l9 k k x2 x10 m3_3 ((List.length m3_3) : Int) 0 m9 m9_1 m64 m64_1_ m3 m3_1 m3_2 []) fun o1 =>
  match o1 with
  | .o0 _ _ _ _ _ _ _ _ _ _ _ _ _ =>
   none
  | .o1 _ _ _ _ _ _ _ _ _ _ _ _ _ =>
   none
  | .o2 v4 v5 v6 v7 v8 v9 v10 v11 v12 v13 v14 v15 v16 v17 =>
   f6_aiirrzaiirrzi_j10 k v4 v5 v6 v7 v8 v9 v10 v11 v12 v13 v14 v15 v16 v17
theorem f6_aiirrzaiirrzi_j8_ok (k:Nat) (x2 x10:Int) (x74:Bool) (m3 m3_1:Int) (m3_2:List T65) (m3_3:List T39) (m9 m9_1:Int) (m64:List T65) (m64_1_:List T39) (r:R6_aiirrzaiirrzi) (hF:f6_aiirrzaiirrzi_j8 k x2 x10 x74 m3 m3_1 m3_2 m3_3 m9 m9_1 m64 m64_1_ = some r) : finK Try.prog Try.f6 0 (EX 6 k (nav B6 [2,2,2,2,2,2,2,2]) (⟨114,[(2,.p (.int .i64 x2)),(3,.ptr 3 0),(9,.ptr 9 0),(10,.p (.int .i64 x10)),(74,.p (.bool x74))],[(3,.box 26 [.p (.int .i64 m3),.p (.int .u32 m3_1),.sl 4 (rowsOf encT65 m3_2),.sl 11 (rowsOf encT39 m3_3)]),(9,.box 26 [.p (.int .i64 m9),.p (.int .u32 m9_1),.own 64,.own 10064]),(64,.row true 4 65 (rowsOf encT65 m64)),(10064,.row true 11 39 (rowsOf encT39 m64_1_))]⟩ : St)) = some r.st := by
 unfold f6_aiirrzaiirrzi_j8 at hF
 obtain ⟨o1,h2,hF⟩ := bs hF
 have hc3 := f6_aiirrzaiirrzi_l9_ok k k x2 x10 m3_3 ((List.length m3_3) : Int) 0 m9 m9_1 m64 m64_1_ m3 m3_1 m3_2 [] _ h2
 simp (maxSteps:=999999) (disch:=first|exact D (by decide)|exact K (by kernel_rfl)) only [E,EE,↓reduceIte,simprocAttr,xk B6 [2,2,2,2,2,2,2,2] .sq rfl,rg B6 [1,2,2,2,2,2,2,2,2] 18 false rfl,hr_6_18,t_26,xk B6 [2,2,2,2,2,2,2,2,2] .sq rfl,rg B6 [1,2,2,2,2,2,2,2,2,2] 19 false rfl,hr_6_19,fieldAddrV,t_24,xk B6 [2,2,2,2,2,2,2,2,2,2] .sq rfl,xk B6 [1,2,2,2,2,2,2,2,2,2,2] .sq rfl,rg B6 [1,1,2,2,2,2,2,2,2,2,2,2] 20 false rfl,hr_6_20,xk B6 [2,1,2,2,2,2,2,2,2,2,2,2] (.bk 1) rfl,xk B6 [2,2,1,2,2,2,2,2,2,2,2,2,2] .lp rfl,hh_6_21,hc_6_21]
 (try simp only [NM,EE] at hc3)
 rw [hc3 _ (by simp (maxSteps:=999999) (disch:=first|exact D (by decide)|exact K (by kernel_rfl)) only [E,EE,↓reduceIte,simprocAttr,hh_6_21,hc_6_21])]
 clear hc3
 cases o1 with
 | o0 _ _ _ _ _ _ _ _ _ _ _ _ _ =>
  (try dsimp only at hF)
  cases hF
 | o1 _ _ _ _ _ _ _ _ _ _ _ _ _ =>
  (try dsimp only at hF)
  cases hF
 | o2 v4 v5 v6 v7 v8 v9 v10 v11 v12 v13 v14 v15 v16 v17 =>
  (try dsimp only at hF)
  have hJ := f6_aiirrzaiirrzi_j10_ok k v4 v5 v6 v7 v8 v9 v10 v11 v12 v13 v14 v15 v16 v17 _ hF
  simp (maxSteps:=999999) (disch:=first|exact D (by decide)|exact K (by kernel_rfl)) only [E,EE,↓reduceIte,simprocAttr,R6_aiirrzaiirrzi_l9.st]
  try simp only [NM,EE] at hJ
  exact hJ
inductive R6_aiirrzaiirrzi_l12 where
 | o0 (y y_1:Int) (y_2:List T39) (y_3 y_4 y_5 y_6:Int) (y_7 y_8:Nat) (y_9:List T65) (y_10:List T39) (y_11 y_12:Int) (y_13:List T65) (y_14:List T39)
 | o1 (y y_1:Int) (y_2:List T39) (y_3 y_4 y_5 y_6:Int) (y_7 y_8:Nat) (y_9:List T65) (y_10:List T39) (y_11 y_12:Int) (y_13:List T65) (y_14:List T39)
 | o2 (y y_1:Int) (y_2:List T39) (y_3 y_4:Int) (y_5:Bool) (y_6 y_7:Int) (y_8 y_9:Nat) (y_10:List T65) (y_11:List T39) (y_12 y_13:Int) (y_14:List T65) (y_15:List T39)
noncomputable def R6_aiirrzaiirrzi_l12.st : R6_aiirrzaiirrzi_l12 → Out × St
 | .o0 y y_1 y_2 y_3 y_4 y_5 y_6 y_7 y_8 y_9 y_10 y_11 y_12 y_13 y_14 => (.norm,(⟨114,[(2,.p (.int .i64 y)),(9,.ptr 30000 0),(10,.p (.int .i64 y_1)),(11,.ptr 30003 0),(87,.sl 11 (rowsOf encT39 y_2)),(88,.p (.int .i64 y_3)),(89,.p (.int .i64 y_4))],[(30000,.box 26 [.p (.int .i64 y_5),.p (.int .u32 y_6),.own 30001,V.cut 30002 11 y_7 y_8]),(30001,.row true 4 65 (rowsOf encT65 y_9)),(30002,.row true 11 39 (rowsOf encT39 y_10)),(30003,.box 26 [.p (.int .i64 y_11),.p (.int .u32 y_12),.sl 4 (rowsOf encT65 y_13),.own 104]),(104,.row true 11 39 (rowsOf encT39 y_14))]⟩ : St))
 | .o1 y y_1 y_2 y_3 y_4 y_5 y_6 y_7 y_8 y_9 y_10 y_11 y_12 y_13 y_14 => (.norm,(⟨114,[(2,.p (.int .i64 y)),(9,.ptr 30000 0),(10,.p (.int .i64 y_1)),(11,.ptr 30003 0),(87,.sl 11 (rowsOf encT39 y_2)),(88,.p (.int .i64 y_3)),(89,.p (.int .i64 y_4))],[(30000,.box 26 [.p (.int .i64 y_5),.p (.int .u32 y_6),.own 30001,V.cut 30002 11 y_7 y_8]),(30001,.row true 4 65 (rowsOf encT65 y_9)),(30002,.row true 11 39 (rowsOf encT39 y_10)),(30003,.box 26 [.p (.int .i64 y_11),.p (.int .u32 y_12),.sl 4 (rowsOf encT65 y_13),.own 30004]),(30004,.row true 11 39 (rowsOf encT39 y_14))]⟩ : St))
 | .o2 y y_1 y_2 y_3 y_4 y_5 y_6 y_7 y_8 y_9 y_10 y_11 y_12 y_13 y_14 y_15 => (.exit 1,(⟨114,[(2,.p (.int .i64 y)),(9,.ptr 30000 0),(10,.p (.int .i64 y_1)),(11,.ptr 30003 0),(87,.sl 11 (rowsOf encT39 y_2)),(88,.p (.int .i64 y_3)),(89,.p (.int .i64 y_4)),(90,.p (.bool y_5))],[(30000,.box 26 [.p (.int .i64 y_6),.p (.int .u32 y_7),.own 30001,V.cut 30002 11 y_8 y_9]),(30001,.row true 4 65 (rowsOf encT65 y_10)),(30002,.row true 11 39 (rowsOf encT39 y_11)),(30003,.box 26 [.p (.int .i64 y_12),.p (.int .u32 y_13),.sl 4 (rowsOf encT65 y_14),.own 30004]),(30004,.row true 11 39 (rowsOf encT39 y_15))]⟩ : St))
noncomputable def f6_aiirrzaiirrzi_l12_j2 (k:Nat) (x2 x10:Int) (x87:List T39) (x88 x89 h0_ h0__1:Int) (h0__2 h0__3:Nat) (h1_:List T65) (h2_:List T39) (h3_ h3__1:Int) (h3__2:List T65) (m104:List T39) : Option R6_aiirrzaiirrzi_l12 :=
 some (R6_aiirrzaiirrzi_l12.o0 x2 x10 x87 x88 (IntKind.i64.wrap (x89 + (1:Int))) h0_ h0__1 h0__2 h0__3 h1_ h2_ h3_ h3__1 h3__2 m104)
theorem f6_aiirrzaiirrzi_l12_j2_ok (k:Nat) (x2 x10:Int) (x87:List T39) (x88 x89 h0_ h0__1:Int) (h0__2 h0__3:Nat) (h1_:List T65) (h2_:List T39) (h3_ h3__1:Int) (h3__2:List T65) (m104:List T39) (r:R6_aiirrzaiirrzi_l12) (hF:f6_aiirrzaiirrzi_l12_j2 k x2 x10 x87 x88 x89 h0_ h0__1 h0__2 h0__3 h1_ h2_ h3_ h3__1 h3__2 m104 = some r) : EX 6 k (nav B6 [2,2,2,1,2,2,1,2,2,2,2,2,2,2,2,2,2]) (⟨114,[(2,.p (.int .i64 x2)),(9,.ptr 30000 0),(10,.p (.int .i64 x10)),(11,.ptr 30003 0),(87,.sl 11 (rowsOf encT39 x87)),(88,.p (.int .i64 x88)),(89,.p (.int .i64 x89))],[(30000,.box 26 [.p (.int .i64 h0_),.p (.int .u32 h0__1),.own 30001,V.cut 30002 11 h0__2 h0__3]),(30001,.row true 4 65 (rowsOf encT65 h1_)),(30002,.row true 11 39 (rowsOf encT39 h2_)),(30003,.box 26 [.p (.int .i64 h3_),.p (.int .u32 h3__1),.sl 4 (rowsOf encT65 h3__2),.own 104]),(104,.row true 11 39 (rowsOf encT39 m104))]⟩ : St) = some r.st := by
 unfold f6_aiirrzaiirrzi_l12_j2 at hF
 cases hF
 simp (maxSteps:=999999) (disch:=first|exact D (by decide)|exact K (by kernel_rfl)) only [E,EE,↓reduceIte,simprocAttr,rg B6 [2,2,2,1,2,2,1,2,2,2,2,2,2,2,2,2,2] 25 false rfl,hr_6_25,R6_aiirrzaiirrzi_l12.st]
noncomputable def f6_aiirrzaiirrzi_l12_j3 (k:Nat) (x2 x10:Int) (x87:List T39) (x88 x89:Int) (x99:Bool) (h0_ h0__1:Int) (h0__2 h0__3:Nat) (h1_:List T65) (h2_:List T39) (h3_ h3__1:Int) (h3__2:List T65) (h4_:List T39) (m13 m13_1 m13_2 m13_3 m13_4 m13_5 m13_6 m13_7 m13_8 m13_9:Int) (m13_10:List Int) : Option R6_aiirrzaiirrzi_l12 :=
 some (R6_aiirrzaiirrzi_l12.o1 x2 x10 x87 x88 (IntKind.i64.wrap (x89 + (1:Int))) h0_ h0__1 h0__2 h0__3 h1_ h2_ h3_ h3__1 h3__2 h4_)
theorem f6_aiirrzaiirrzi_l12_j3_ok (k:Nat) (x2 x10:Int) (x87:List T39) (x88 x89:Int) (x99:Bool) (h0_ h0__1:Int) (h0__2 h0__3:Nat) (h1_:List T65) (h2_:List T39) (h3_ h3__1:Int) (h3__2:List T65) (h4_:List T39) (m13 m13_1 m13_2 m13_3 m13_4 m13_5 m13_6 m13_7 m13_8 m13_9:Int) (m13_10:List Int) (r:R6_aiirrzaiirrzi_l12) (hF:f6_aiirrzaiirrzi_l12_j3 k x2 x10 x87 x88 x89 x99 h0_ h0__1 h0__2 h0__3 h1_ h2_ h3_ h3__1 h3__2 h4_ m13 m13_1 m13_2 m13_3 m13_4 m13_5 m13_6 m13_7 m13_8 m13_9 m13_10 = some r) : EX 6 k (nav B6 [2,2,2,1,2,2,1,2,2,2,2,2,2,2,2,2,2]) (⟨114,[(2,.p (.int .i64 x2)),(9,.ptr 30000 0),(10,.p (.int .i64 x10)),(11,.ptr 30003 0),(13,.ptr 13 0),(87,.sl 11 (rowsOf encT39 x87)),(88,.p (.int .i64 x88)),(89,.p (.int .i64 x89)),(99,.p (.bool x99))],[(30000,.box 26 [.p (.int .i64 h0_),.p (.int .u32 h0__1),.own 30001,V.cut 30002 11 h0__2 h0__3]),(30001,.row true 4 65 (rowsOf encT65 h1_)),(30002,.row true 11 39 (rowsOf encT39 h2_)),(30003,.box 26 [.p (.int .i64 h3_),.p (.int .u32 h3__1),.sl 4 (rowsOf encT65 h3__2),.own 30004]),(30004,.row true 11 39 (rowsOf encT39 h4_)),(13,.box 39 [.p (.int .i64 m13),.p (.int .i64 m13_1),.p (.int .u32 m13_2),.p (.int .i64 m13_3),.p (.int .i64 m13_4),.p (.int .i64 m13_5),.p (.int .i64 m13_6),.p (.int .i64 m13_7),.p (.int .i64 m13_8),.p (.int .i64 m13_9),.sl 1 (rowsOf (encI .u8) m13_10)])]⟩ : St) = some r.st := by
 unfold f6_aiirrzaiirrzi_l12_j3 at hF
 cases hF
 simp (maxSteps:=999999) (disch:=first|exact D (by decide)|exact K (by kernel_rfl)) only [E,EE,↓reduceIte,simprocAttr,rg B6 [2,2,2,1,2,2,1,2,2,2,2,2,2,2,2,2,2] 25 false rfl,hr_6_25,R6_aiirrzaiirrzi_l12.st]
noncomputable def f6_aiirrzaiirrzi_l12_j1 (k:Nat) (x2 x10:Int) (x87:List T39) (x88 x89:Int) (x90:Bool) (h0_ h0__1:Int) (h0__2 h0__3:Nat) (h1_:List T65) (h2_:List T39) (h3_ h3__1:Int) (h3__2:List T65) (h4_:List T39) : Option R6_aiirrzaiirrzi_l12 :=
 ifE ((0:Int) ≤ x89) (
  Option.bind (x87[(Int.toNat x89)]?) fun v2 =>
   cond ((decide (x2 < (IntKind.i64.wrap (v2.Created + v2.Lifetime)))))
    (
     ifE (((List.length h4_) + 1) * 104 ≤ roomy) (
      f6_aiirrzaiirrzi_l12_j2 k x2 x10 x87 x88 x89 h0_ h0__1 h0__2 h0__3 h1_ h2_ h3_ h3__1 h3__2 (h4_ ++ ([v2] : List T39))))
    (f6_aiirrzaiirrzi_l12_j3 k x2 x10 x87 x88 x89 false h0_ h0__1 h0__2 h0__3 h1_ h2_ h3_ h3__1 h3__2 h4_ v2.Source v2.Dest v2.Seq v2.Created v2.Lifetime v2.HopLimit v2.Hops v2.Priority v2.Offset v2.Total v2.Payload))
theorem f6_aiirrzaiirrzi_l12_j1_ok (k:Nat) (x2 x10:Int) (x87:List T39) (x88 x89:Int) (x90:Bool) (h0_ h0__1:Int) (h0__2 h0__3:Nat) (h1_:List T65) (h2_:List T39) (h3_ h3__1:Int) (h3__2:List T65) (h4_:List T39) (r:R6_aiirrzaiirrzi_l12) (hF:f6_aiirrzaiirrzi_l12_j1 k x2 x10 x87 x88 x89 x90 h0_ h0__1 h0__2 h0__3 h1_ h2_ h3_ h3__1 h3__2 h4_ = some r) : EX 6 k (nav B6 [2,2,1,2,2,1,2,2,2,2,2,2,2,2,2,2]) (⟨114,[(2,.p (.int .i64 x2)),(9,.ptr 30000 0),(10,.p (.int .i64 x10)),(11,.ptr 30003 0),(87,.sl 11 (rowsOf encT39 x87)),(88,.p (.int .i64 x88)),(89,.p (.int .i64 x89)),(90,.p (.bool x90))],[(30000,.box 26 [.p (.int .i64 h0_),.p (.int .u32 h0__1),.own 30001,V.cut 30002 11 h0__2 h0__3]),(30001,.row true 4 65 (rowsOf encT65 h1_)),(30002,.row true 11 39 (rowsOf encT39 h2_)),(30003,.box 26 [.p (.int .i64 h3_),.p (.int .u32 h3__1),.sl 4 (rowsOf encT65 h3__2),.own 30004]),(30004,.row true 11 39 (rowsOf encT39 h4_))]⟩ : St) = some r.st := by
 unfold f6_aiirrzaiirrzi_l12_j1 at hF
 obtain ⟨h1,hF⟩ := ifE_some.1 hF
 obtain ⟨v2,h3,hF⟩ := bs hF
 simp (maxSteps:=999999) (disch:=first|exact D (by decide)|exact K (by kernel_rfl)) only [E,EE,↓reduceIte,simprocAttr,xk B6 [2,2,1,2,2,1,2,2,2,2,2,2,2,2,2,2] .sq rfl,xk B6 [1,2,2,1,2,2,1,2,2,2,2,2,2,2,2,2,2] (.bk 2) rfl,xk B6 [2,1,2,2,1,2,2,1,2,2,2,2,2,2,2,2,2,2] .sq rfl,rg B6 [1,2,1,2,2,1,2,2,1,2,2,2,2,2,2,2,2,2,2] 22 false rfl,hr_6_22,indexAddrV,t_24,t_39,encT39_eq,xk B6 [2,2,1,2,2,1,2,2,1,2,2,2,2,2,2,2,2,2,2] .sq rfl,rg B6 [1,2,2,1,2,2,1,2,2,1,2,2,2,2,2,2,2,2,2,2] 23 false rfl,hr_6_23,fieldAddrV,t_3,xk B6 [2,2,2,1,2,2,1,2,2,1,2,2,2,2,2,2,2,2,2,2] (.cd 99) rfl,h1,h3]
 rcases cond_some hF with ⟨h4,hF⟩ | ⟨h4,hF⟩
 ·have q5 : [[.p (.int .i64 v2.Source),.p (.int .i64 v2.Dest),.p (.int .u32 v2.Seq),.p (.int .i64 v2.Created),.p (.int .i64 v2.Lifetime),.p (.int .i64 v2.HopLimit),.p (.int .i64 v2.Hops),.p (.int .i64 v2.Priority),.p (.int .i64 v2.Offset),.p (.int .i64 v2.Total),.sl 1 (rowsOf (encI .u8) v2.Payload)]] = rowsOf encT39 ([v2] : List T39) := rfl
  have q6 : List.map (tell [0,0,0,0,0,0,0,0,0,0,1]) (rowsOf encT39 ([v2] : List T39)) = rowsOf encT39 ([v2] : List T39) := rfl
  obtain ⟨h7,hF⟩ := ifE_some.1 hF
  have hJ := f6_aiirrzaiirrzi_l12_j2_ok k x2 x10 x87 x88 x89 h0_ h0__1 h0__2 h0__3 h1_ h2_ h3_ h3__1 h3__2 (h4_ ++ ([v2] : List T39)) _ hF
  simp (maxSteps:=999999) (disch:=first|exact D (by decide)|exact K (by kernel_rfl)) only [E,EE,↓reduceIte,simprocAttr,rg B6 [2,2,2,2,1,2,2,1,2,2,1,2,2,2,2,2,2,2,2,2,2] 24 false rfl,hr_6_24,fieldAddrV,t_26,t_24,t_39,buildSliceV,fillRows,sm_39,appendV,content,h1,h3,h4,q5,q6,h7]
  try simp only [NM,EE] at hJ
  exact hJ
 ·have hJ := f6_aiirrzaiirrzi_l12_j3_ok k x2 x10 x87 x88 x89 false h0_ h0__1 h0__2 h0__3 h1_ h2_ h3_ h3__1 h3__2 h4_ v2.Source v2.Dest v2.Seq v2.Created v2.Lifetime v2.HopLimit v2.Hops v2.Priority v2.Offset v2.Total v2.Payload _ hF
  simp (maxSteps:=999999) (disch:=first|exact D (by decide)|exact K (by kernel_rfl)) only [E,EE,↓reduceIte,simprocAttr,xk B6 [3,2,2,2,1,2,2,1,2,2,1,2,2,2,2,2,2,2,2,2,2] .sk rfl,h1,h3,h4]
  try simp only [NM,EE] at hJ
  exact hJ
noncomputable def f6_aiirrzaiirrzi_l12_b (k:Nat) (x2 x10:Int) (x87:List T39) (x88 x89 h0_ h0__1:Int) (h0__2 h0__3:Nat) (h1_:List T65) (h2_:List T39) (h3_ h3__1:Int) (h3__2:List T65) (h4_:List T39) : Option R6_aiirrzaiirrzi_l12 :=
 cond ((decide (x89 < x88)))
  (f6_aiirrzaiirrzi_l12_j1 k x2 x10 x87 x88 x89 true h0_ h0__1 h0__2 h0__3 h1_ h2_ h3_ h3__1 h3__2 h4_)
  (some (R6_aiirrzaiirrzi_l12.o2 x2 x10 x87 x88 x89 false h0_ h0__1 h0__2 h0__3 h1_ h2_ h3_ h3__1 h3__2 h4_))
theorem f6_aiirrzaiirrzi_l12_b_ok (k:Nat) (x2 x10:Int) (x87:List T39) (x88 x89 h0_ h0__1:Int) (h0__2 h0__3:Nat) (h1_:List T65) (h2_:List T39) (h3_ h3__1:Int) (h3__2:List T65) (h4_:List T39) (r:R6_aiirrzaiirrzi_l12) (hF:f6_aiirrzaiirrzi_l12_b k x2 x10 x87 x88 x89 h0_ h0__1 h0__2 h0__3 h1_ h2_ h3_ h3__1 h3__2 h4_ = some r) : EX 6 k (nav B6 [1,2,2,1,2,2,2,2,2,2,2,2,2,2]) (⟨114,[(2,.p (.int .i64 x2)),(9,.ptr 30000 0),(10,.p (.int .i64 x10)),(11,.ptr 30003 0),(87,.sl 11 (rowsOf encT39 x87)),(88,.p (.int .i64 x88)),(89,.p (.int .i64 x89))],[(30000,.box 26 [.p (.int .i64 h0_),.p (.int .u32 h0__1),.own 30001,V.cut 30002 11 h0__2 h0__3]),(30001,.row true 4 65 (rowsOf encT65 h1_)),(30002,.row true 11 39 (rowsOf encT39 h2_)),(30003,.box 26 [.p (.int .i64 h3_),.p (.int .u32 h3__1),.sl 4 (rowsOf encT65 h3__2),.own 30004]),(30004,.row true 11 39 (rowsOf encT39 h4_))]⟩ : St) = some r.st := by
 unfold f6_aiirrzaiirrzi_l12_b at hF
 simp (maxSteps:=999999) (disch:=first|exact D (by decide)|exact K (by kernel_rfl)) only [E,EE,↓reduceIte,simprocAttr,xk B6 [1,2,2,1,2,2,2,2,2,2,2,2,2,2] .sq rfl,rg B6 [1,1,2,2,1,2,2,2,2,2,2,2,2,2,2] 21 false rfl,hr_6_21,xk B6 [2,1,2,2,1,2,2,2,2,2,2,2,2,2,2] .sq rfl,xk B6 [1,2,1,2,2,1,2,2,2,2,2,2,2,2,2,2] (.cd 90) rfl]
 rcases cond_some hF with ⟨h1,hF⟩ | ⟨h1,hF⟩
 ·have hJ := f6_aiirrzaiirrzi_l12_j1_ok k x2 x10 x87 x88 x89 true h0_ h0__1 h0__2 h0__3 h1_ h2_ h3_ h3__1 h3__2 h4_ _ hF
  simp (maxSteps:=999999) (disch:=first|exact D (by decide)|exact K (by kernel_rfl)) only [E,EE,↓reduceIte,simprocAttr,xk B6 [2,1,2,1,2,2,1,2,2,2,2,2,2,2,2,2,2] .sk rfl,h1]
  try simp only [NM,EE] at hJ
  exact hJ
 ·cases hF
  simp (maxSteps:=999999) (disch:=first|exact D (by decide)|exact K (by kernel_rfl)) only [E,EE,↓reduceIte,simprocAttr,xk B6 [3,1,2,1,2,2,1,2,2,2,2,2,2,2,2,2,2] (.ex 1) rfl,R6_aiirrzaiirrzi_l12.st,h1]
noncomputable def f6_aiirrzaiirrzi_l12 (k:Nat) : Nat → Int → Int → (List T39) → Int → Int → Int → Int → Nat → Nat → (List T65) → (List T39) → Int → Int → (List T65) → (List T39) → Option R6_aiirrzaiirrzi_l12
 | 0,_,_,_,_,_,_,_,_,_,_,_,_,_,_,_ => none
 | n + 1,x2,x10,x87,x88,x89,h0_,h0__1,h0__2,h0__3,h1_,h2_,h3_,h3__1,h3__2,h4_ => Option.bind (f6_aiirrzaiirrzi_l12_b k x2 x10 x87 x88 x89 h0_ h0__1 h0__2 h0__3 h1_ h2_ h3_ h3__1 h3__2 h4_) fun o =>
  match o with
  | .o0 y y_1 y_2 y_3 y_4 y_5 y_6 y_7 y_8 y_9 y_10 y_11 y_12 y_13 y_14 => f6_aiirrzaiirrzi_l12 k n y y_1 y_2 y_3 y_4 y_5 y_6 y_7 y_8 y_9 y_10 y_11 y_12 y_13 y_14
  | .o1 y y_1 y_2 y_3 y_4 y_5 y_6 y_7 y_8 y_9 y_10 y_11 y_12 y_13 y_14 => f6_aiirrzaiirrzi_l12 k n y y_1 y_2 y_3 y_4 y_5 y_6 y_7 y_8 y_9 y_10 y_11 y_12 y_13 y_14
  | .o2 y y_1 y_2 y_3 y_4 y_5 y_6 y_7 y_8 y_9 y_10 y_11 y_12 y_13 y_14 y_15 => some (.o2 y y_1 y_2 y_3 y_4 y_5 y_6 y_7 y_8 y_9 y_10 y_11 y_12 y_13 y_14 y_15)
theorem f6_aiirrzaiirrzi_l12_ok (k n:Nat) : ∀ (x2 x10:Int) (x87:List T39) (x88 x89 h0_ h0__1:Int) (h0__2 h0__3:Nat) (h1_:List T65) (h2_:List T39) (h3_ h3__1:Int) (h3__2:List T65) (h4_:List T39) (r:R6_aiirrzaiirrzi_l12) (hF:f6_aiirrzaiirrzi_l12 k n x2 x10 x87 x88 x89 h0_ h0__1 h0__2 h0__3 h1_ h2_ h3_ h3__1 h3__2 h4_ = some r) (σ:St) (hσ:headR (hints.head 6 21) (hints.canon 6 21) σ = some (⟨114,[(2,.p (.int .i64 x2)),(9,.ptr 30000 0),(10,.p (.int .i64 x10)),(11,.ptr 30003 0),(87,.sl 11 (rowsOf encT39 x87)),(88,.p (.int .i64 x88)),(89,.p (.int .i64 x89))],[(30000,.box 26 [.p (.int .i64 h0_),.p (.int .u32 h0__1),.own 30001,V.cut 30002 11 h0__2 h0__3]),(30001,.row true 4 65 (rowsOf encT65 h1_)),(30002,.row true 11 39 (rowsOf encT39 h2_)),(30003,.box 26 [.p (.int .i64 h3_),.p (.int .u32 h3__1),.sl 4 (rowsOf encT65 h3__2),.own 30004]),(30004,.row true 11 39 (rowsOf encT39 h4_))]⟩ : St)),LP 6 k (nav B6 [1,2,2,1,2,2,2,2,2,2,2,2,2,2]) n σ = some r.st := by
 induction n with
 | zero => intro x2 x10 x87 x88 x89 h0_ h0__1 h0__2 h0__3 h1_ h2_ h3_ h3__1 h3__2 h4_ r hF; cases hF
 | succ n ih =>
  intro x2 x10 x87 x88 x89 h0_ h0__1 h0__2 h0__3 h1_ h2_ h3_ h3__1 h3__2 h4_ r hF σ hσ
  rw [f6_aiirrzaiirrzi_l12] at hF
  obtain ⟨o,h,hF⟩ := Option.bind_eq_some_iff.1 hF
  have hB := f6_aiirrzaiirrzi_l12_b_ok k x2 x10 x87 x88 x89 h0_ h0__1 h0__2 h0__3 h1_ h2_ h3_ h3__1 h3__2 h4_ o h
  unfold LP at ih ⊢
  unfold EX at hB
  rw [loopK_succ,show firstReg (nav B6 [1,2,2,1,2,2,2,2,2,2,2,2,2,2]) = 21 from rfl,hσ,headK_some,hB]
  cases o with
  | o0 y y_1 y_2 y_3 y_4 y_5 y_6 y_7 y_8 y_9 y_10 y_11 y_12 y_13 y_14 =>
   refine ih y y_1 y_2 y_3 y_4 y_5 y_6 y_7 y_8 y_9 y_10 y_11 y_12 y_13 y_14 r hF _ ?_
   simp (maxSteps:=999999) (disch:=first|exact D (by decide)|exact K (by kernel_rfl)) only [E,EE,↓reduceIte,simprocAttr,hh_6_21,hc_6_21]
  | o1 y y_1 y_2 y_3 y_4 y_5 y_6 y_7 y_8 y_9 y_10 y_11 y_12 y_13 y_14 =>
   refine ih y y_1 y_2 y_3 y_4 y_5 y_6 y_7 y_8 y_9 y_10 y_11 y_12 y_13 y_14 r hF _ ?_
   simp (maxSteps:=999999) (disch:=first|exact D (by decide)|exact K (by kernel_rfl)) only [E,EE,↓reduceIte,simprocAttr,hh_6_21,hc_6_21]
  | o2 y y_1 y_2 y_3 y_4 y_5 y_6 y_7 y_8 y_9 y_10 y_11 y_12 y_13 y_14 y_15 => cases hF; rfl
noncomputable def f6_aiirrzaiirrzi_j13 (k:Nat) (x2 x10:Int) (x87:List T39) (x88 x89:Int) (x90:Bool) (h0_ h0__1:Int) (h0__2 h0__3:Nat) (h1_:List T65) (h2_:List T39) (h3_ h3__1:Int) (h3__2:List T65) (h4_:List T39) : Option R6_aiirrzaiirrzi :=
 cond ((x10 == 0))
  (
   ifE ((h0__2 + h0__3) ≤ (List.length h2_)) (
    Option.bind (f15_aiirrzaiirrz k h0_ h0__1 h1_ (List.take h0__3 (List.drop h0__2 h2_)) h3_ h3__1 h3__2 h4_) fun o3 =>
     match o3 with
     | .o0 v6 =>
      some (R6_aiirrzaiirrzi.o0 v6)))
  (some (R6_aiirrzaiirrzi.o0 false))
theorem f6_aiirrzaiirrzi_j13_ok (k:Nat) (x2 x10:Int) (x87:List T39) (x88 x89:Int) (x90:Bool) (h0_ h0__1:Int) (h0__2 h0__3:Nat) (h1_:List T65) (h2_:List T39) (h3_ h3__1:Int) (h3__2:List T65) (h4_:List T39) (r:R6_aiirrzaiirrzi) (hF:f6_aiirrzaiirrzi_j13 k x2 x10 x87 x88 x89 x90 h0_ h0__1 h0__2 h0__3 h1_ h2_ h3_ h3__1 h3__2 h4_ = some r) : finK Try.prog Try.f6 0 (EX 6 k (nav B6 [2,2,2,2,2,2,2,2,2,2,2]) (⟨114,[(2,.p (.int .i64 x2)),(9,.ptr 30000 0),(10,.p (.int .i64 x10)),(11,.ptr 30003 0),(87,.sl 11 (rowsOf encT39 x87)),(88,.p (.int .i64 x88)),(89,.p (.int .i64 x89)),(90,.p (.bool x90))],[(30000,.box 26 [.p (.int .i64 h0_),.p (.int .u32 h0__1),.own 30001,V.cut 30002 11 h0__2 h0__3]),(30001,.row true 4 65 (rowsOf encT65 h1_)),(30002,.row true 11 39 (rowsOf encT39 h2_)),(30003,.box 26 [.p (.int .i64 h3_),.p (.int .u32 h3__1),.sl 4 (rowsOf encT65 h3__2),.own 30004]),(30004,.row true 11 39 (rowsOf encT39 h4_))]⟩ : St)) = some r.st := by
 unfold f6_aiirrzaiirrzi_j13 at hF
 simp (maxSteps:=999999) (disch:=first|exact D (by decide)|exact K (by kernel_rfl)) only [E,EE,↓reduceIte,simprocAttr,xk B6 [2,2,2,2,2,2,2,2,2,2,2] .sq rfl,rg B6 [1,2,2,2,2,2,2,2,2,2,2,2] 26 false rfl,hr_6_26]
 rcases cond_some hF with ⟨h1,hF⟩ | ⟨h1,hF⟩
 ·obtain ⟨h2,hF⟩ := ifE_some.1 hF
  obtain ⟨o3,h4,hF⟩ := bs hF
  have hc5 := f15_aiirrzaiirrz_ok k h0_ h0__1 h1_ (List.take h0__3 (List.drop h0__2 h2_)) h3_ h3__1 h3__2 h4_ _ h4
  cases o3 with
  | o0 v6 =>
   (try dsimp only at hF)
   (try simp only [NM,EE,R15_aiirrzaiirrz.st] at hc5)
   cases hF
   simp (maxSteps:=999999) (disch:=first|exact D (by decide)|exact K (by kernel_rfl)) only [E,EE,↓reduceIte,simprocAttr,t_26,callStep,CL,gv,List.contains,xk B6 [2,2,2,2,2,2,2,2,2,2,2,2] .rt rfl,finK_norm,finK_ret,fin6,R6_aiirrzaiirrzi.st,h1,h2,hc5]
 ·cases hF
  simp (maxSteps:=999999) (disch:=first|exact D (by decide)|exact K (by kernel_rfl)) only [E,EE,↓reduceIte,simprocAttr,xk B6 [2,2,2,2,2,2,2,2,2,2,2,2] .rt rfl,finK_norm,finK_ret,fin6,R6_aiirrzaiirrzi.st,h1]
noncomputable def f6_aiirrzaiirrzi_j11 (k:Nat) (x2 x10:Int) (x74:Bool) (m3 m3_1:Int) (m3_2:List T65) (m3_3:List T39) (m9 m9_1:Int) (m9_2 m9_3:Nat) (m64:List T65) (m64_1_:List T39) : Option R6_aiirrzaiirrzi :=
 Option.bind (f6_aiirrzaiirrzi_l12 k k x2 x10 m3_3 ((List.length m3_3) : Int) 0 m9 m9_1 m9_2 m9_3 m64 m64_1_ m3 m3_1 m3_2 []) fun o1 =>
  match o1 with
  | .o0 _ _ _ _ _ _ _ _ _ _ _ _ _ _ _ =>
   none
  | .o1 _ _ _ _ _ _ _ _ _ _ _ _ _ _ _ =>
   none
  | .o2 v4 v5 v6 v7 v8 v9 v10 v11 v12 v13 v14 v15 v16 v17 v18 v19 =>
   f6_aiirrzaiirrzi_j13 k v4 v5 v6 v7 v8 v9 v10 v11 v12 v13 v14 v15 v16 v17 v18 v19
theorem f6_aiirrzaiirrzi_j11_ok (k:Nat) (x2 x10:Int) (x74:Bool) (m3 m3_1:Int) (m3_2:List T65) (m3_3:List T39) (m9 m9_1:Int) (m9_2 m9_3:Nat) (m64:List T65) (m64_1_:List T39) (r:R6_aiirrzaiirrzi) (hF:f6_aiirrzaiirrzi_j11 k x2 x10 x74 m3 m3_1 m3_2 m3_3 m9 m9_1 m9_2 m9_3 m64 m64_1_ = some r) : finK Try.prog Try.f6 0 (EX 6 k (nav B6 [2,2,2,2,2,2,2,2]) (⟨114,[(2,.p (.int .i64 x2)),(3,.ptr 3 0),(9,.ptr 9 0),(10,.p (.int .i64 x10)),(74,.p (.bool x74))],[(3,.box 26 [.p (.int .i64 m3),.p (.int .u32 m3_1),.sl 4 (rowsOf encT65 m3_2),.sl 11 (rowsOf encT39 m3_3)]),(9,.box 26 [.p (.int .i64 m9),.p (.int .u32 m9_1),.own 64,V.cut 10064 11 m9_2 m9_3]),(64,.row true 4 65 (rowsOf encT65 m64)),(10064,.row true 11 39 (rowsOf encT39 m64_1_))]⟩ : St)) = some r.st := by
 unfold f6_aiirrzaiirrzi_j11 at hF
 obtain ⟨o1,h2,hF⟩ := bs hF
 have hc3 := f6_aiirrzaiirrzi_l12_ok k k x2 x10 m3_3 ((List.length m3_3) : Int) 0 m9 m9_1 m9_2 m9_3 m64 m64_1_ m3 m3_1 m3_2 [] _ h2
 simp (maxSteps:=999999) (disch:=first|exact D (by decide)|exact K (by kernel_rfl)) only [E,EE,↓reduceIte,simprocAttr,xk B6 [2,2,2,2,2,2,2,2] .sq rfl,rg B6 [1,2,2,2,2,2,2,2,2] 18 false rfl,hr_6_18,t_26,xk B6 [2,2,2,2,2,2,2,2,2] .sq rfl,rg B6 [1,2,2,2,2,2,2,2,2,2] 19 false rfl,hr_6_19,fieldAddrV,t_24,xk B6 [2,2,2,2,2,2,2,2,2,2] .sq rfl,xk B6 [1,2,2,2,2,2,2,2,2,2,2] .sq rfl,rg B6 [1,1,2,2,2,2,2,2,2,2,2,2] 20 false rfl,hr_6_20,xk B6 [2,1,2,2,2,2,2,2,2,2,2,2] (.bk 1) rfl,xk B6 [2,2,1,2,2,2,2,2,2,2,2,2,2] .lp rfl,hh_6_21,hc_6_21]
 (try simp only [NM,EE] at hc3)
 rw [hc3 _ (by simp (maxSteps:=999999) (disch:=first|exact D (by decide)|exact K (by kernel_rfl)) only [E,EE,↓reduceIte,simprocAttr,hh_6_21,hc_6_21])]
 clear hc3
 cases o1 with
 | o0 _ _ _ _ _ _ _ _ _ _ _ _ _ _ _ =>
  (try dsimp only at hF)
  cases hF
 | o1 _ _ _ _ _ _ _ _ _ _ _ _ _ _ _ =>
  (try dsimp only at hF)
  cases hF
 | o2 v4 v5 v6 v7 v8 v9 v10 v11 v12 v13 v14 v15 v16 v17 v18 v19 =>
  (try dsimp only at hF)
  have hJ := f6_aiirrzaiirrzi_j13_ok k v4 v5 v6 v7 v8 v9 v10 v11 v12 v13 v14 v15 v16 v17 v18 v19 _ hF
  simp (maxSteps:=999999) (disch:=first|exact D (by decide)|exact K (by kernel_rfl)) only [E,EE,↓reduceIte,simprocAttr,R6_aiirrzaiirrzi_l12.st]
  try simp only [NM,EE] at hJ
  exact hJ
noncomputable def f6_aiirrzaiirrzi_j4 (k:Nat) (x2:Int) (x50:Bool) (m3 m3_1:Int) (m3_2:List T65) (m3_3:List T39) : Option R6_aiirrzaiirrzi :=
 Option.bind (f10_aiirrz k m3 m3_1 m3_2 m3_3) fun o1 =>
  match o1 with
  | .o0 v4 v5 v6 v7 =>
   Option.bind (f22_aiirrzi k v4 v5 v6 v7 x2) fun o8 =>
    match o8 with
    | .o0 v11 v12 v13 v14 v15 =>
     Option.bind (f11_aiirrz k m3 m3_1 m3_2 m3_3) fun o16 =>
      match o16 with
      | .o0 v19 =>
       cond ((!v19))
        (
         Option.bind (f12_aiirrzii k v11 v12 v13 v15 v14 290) fun o21 =>
          match o21 with
          | .o0 v24 =>
           some (R6_aiirrzaiirrzi.o0 v24))
        (
         cond ((decide (x2 < 0)))
          (
           Option.bind (f12_aiirrzii k v11 v12 v13 v15 v14 2) fun o26 =>
            match o26 with
            | .o0 v29 =>
             some (R6_aiirrzaiirrzi.o0 v29))
          (
           cond ((decide (x2 > 1048576)))
            (
             Option.bind (f12_aiirrzii k v11 v12 v13 v15 v14 2) fun o31 =>
              match o31 with
              | .o0 v34 =>
               some (R6_aiirrzaiirrzi.o0 v34))
            (f6_aiirrzaiirrzi_j5 k x2 v14 false m3 m3_1 m3_2 m3_3 v11 v12 v13 v15)))
    | .o1 v35 v36 v37 v38 v39 =>
     Option.bind (f11_aiirrz k m3 m3_1 m3_2 m3_3) fun o40 =>
      match o40 with
      | .o0 v43 =>
       cond ((!v43))
        (
         Option.bind (f12_aiirrzii k v35 v36 v38 v39 v37 290) fun o45 =>
          match o45 with
          | .o0 v48 =>
           some (R6_aiirrzaiirrzi.o0 v48))
        (
         cond ((decide (x2 < 0)))
          (
           Option.bind (f12_aiirrzii k v35 v36 v38 v39 v37 2) fun o50 =>
            match o50 with
            | .o0 v53 =>
             some (R6_aiirrzaiirrzi.o0 v53))
          (
           cond ((decide (x2 > 1048576)))
            (
             Option.bind (f12_aiirrzii k v35 v36 v38 v39 v37 2) fun o55 =>
              match o55 with
              | .o0 v58 =>
               some (R6_aiirrzaiirrzi.o0 v58))
            (f6_aiirrzaiirrzi_j8 k x2 v37 false m3 m3_1 m3_2 m3_3 v35 v36 v38 v39)))
    | .o2 v59 v60 v61 v62 v63 v64 v65 =>
     Option.bind (f11_aiirrz k m3 m3_1 m3_2 m3_3) fun o66 =>
      match o66 with
      | .o0 v69 =>
       cond ((!v69))
        (
         ifE ((v61 + v62) ≤ (List.length v65)) (
          Option.bind (f12_aiirrzii k v59 v60 v64 (List.take v62 (List.drop v61 v65)) v63 290) fun o72 =>
           match o72 with
           | .o0 v75 =>
            some (R6_aiirrzaiirrzi.o0 v75)))
        (
         cond ((decide (x2 < 0)))
          (
           ifE ((v61 + v62) ≤ (List.length v65)) (
            Option.bind (f12_aiirrzii k v59 v60 v64 (List.take v62 (List.drop v61 v65)) v63 2) fun o78 =>
             match o78 with
             | .o0 v81 =>
              some (R6_aiirrzaiirrzi.o0 v81)))
          (
           cond ((decide (x2 > 1048576)))
            (
             ifE ((v61 + v62) ≤ (List.length v65)) (
              Option.bind (f12_aiirrzii k v59 v60 v64 (List.take v62 (List.drop v61 v65)) v63 2) fun o84 =>
               match o84 with
               | .o0 v87 =>
                some (R6_aiirrzaiirrzi.o0 v87)))
            (f6_aiirrzaiirrzi_j11 k x2 v63 false m3 m3_1 m3_2 m3_3 v59 v60 v61 v62 v64 v65)))
theorem f6_aiirrzaiirrzi_j4_ok (k:Nat) (x2:Int) (x50:Bool) (m3 m3_1:Int) (m3_2:List T65) (m3_3:List T39) (r:R6_aiirrzaiirrzi) (hF:f6_aiirrzaiirrzi_j4 k x2 x50 m3 m3_1 m3_2 m3_3 = some r) : finK Try.prog Try.f6 0 (EX 6 k (nav B6 [2,2,2,2,2,2]) (⟨114,[(2,.p (.int .i64 x2)),(3,.ptr 3 0),(50,.p (.bool x50))],[(3,.box 26 [.p (.int .i64 m3),.p (.int .u32 m3_1),.sl 4 (rowsOf encT65 m3_2),.sl 11 (rowsOf encT39 m3_3)])]⟩ : St)) = some r.st := by
 unfold f6_aiirrzaiirrzi_j4 at hF
 obtain ⟨o1,h2,hF⟩ := bs hF
 have hc3 := f10_aiirrz_ok k m3 m3_1 m3_2 m3_3 _ h2
 cases o1 with
 | o0 v4 v5 v6 v7 =>
  (try dsimp only at hF)
  (try simp only [NM,EE,R10_aiirrz.st] at hc3)
  simp (maxSteps:=999999) (disch:=first|exact D (by decide)|exact K (by kernel_rfl)) only [E,EE,↓reduceIte,simprocAttr,xk B6 [2,2,2,2,2,2] .sq rfl,rg B6 [1,2,2,2,2,2,2] 13 false rfl,hr_6_13,t_26,callStep,CL,gv,List.contains,hc3]
  obtain ⟨o8,h9,hF⟩ := bs hF
  have hc10 := f22_aiirrzi_ok k v4 v5 v6 v7 x2 _ h9
  cases o8 with
  | o0 v11 v12 v13 v14 v15 =>
   (try dsimp only at hF)
   (try simp only [NM,EE,R22_aiirrzi.st] at hc10)
   obtain ⟨o16,h17,hF⟩ := bs hF
   have hc18 := f11_aiirrz_ok k m3 m3_1 m3_2 m3_3 _ h17
   cases o16 with
   | o0 v19 =>
    (try dsimp only at hF)
    (try simp only [NM,EE,R11_aiirrz.st] at hc18)
    simp (maxSteps:=999999) (disch:=first|exact D (by decide)|exact K (by kernel_rfl)) only [E,EE,↓reduceIte,simprocAttr,t_26,xk B6 [2,2,2,2,2,2,2] .sq rfl,xk B6 [1,2,2,2,2,2,2,2] (.bk 0) rfl,xk B6 [2,1,2,2,2,2,2,2,2] .sq rfl,rg B6 [1,2,1,2,2,2,2,2,2,2] 14 false rfl,hr_6_14,callStep,CL,gv,List.contains,xk B6 [2,2,1,2,2,2,2,2,2,2] (.cd 67) rfl,hc3,hc10,hc18]
    rcases cond_some hF with ⟨h20,hF⟩ | ⟨h20,hF⟩
    ·obtain ⟨o21,h22,hF⟩ := bs hF
     have hc23 := f12_aiirrzii_ok k v11 v12 v13 v15 v14 290 _ h22
     cases o21 with
     | o0 v24 =>
      (try dsimp only at hF)
      (try simp only [NM,EE,R12_aiirrzii.st] at hc23)
      cases hF
      simp (maxSteps:=999999) (disch:=first|exact D (by decide)|exact K (by kernel_rfl)) only [E,EE,↓reduceIte,simprocAttr,xk B6 [2,2,2,1,2,2,2,2,2,2,2] .sq rfl,rg B6 [1,2,2,2,1,2,2,2,2,2,2,2] 15 false rfl,hr_6_15,t_26,callStep,CL,gv,List.contains,xk B6 [2,2,2,2,1,2,2,2,2,2,2,2] .rt rfl,finK_norm,finK_ret,fin6,R6_aiirrzaiirrzi.st,hc3,hc10,hc18,h20,hc23]
    ·simp (maxSteps:=999999) (disch:=first|exact D (by decide)|exact K (by kernel_rfl)) only [E,EE,↓reduceIte,simprocAttr,xk B6 [3,2,2,1,2,2,2,2,2,2,2] .sq rfl,rg B6 [1,3,2,2,1,2,2,2,2,2,2,2] 16 false rfl,hr_6_16,hc3,hc10,hc18,h20]
     rcases cond_some hF with ⟨h25,hF⟩ | ⟨h25,hF⟩
     ·obtain ⟨o26,h27,hF⟩ := bs hF
      have hc28 := f12_aiirrzii_ok k v11 v12 v13 v15 v14 2 _ h27
      cases o26 with
      | o0 v29 =>
       (try dsimp only at hF)
       (try simp only [NM,EE,R12_aiirrzii.st] at hc28)
       cases hF
       simp (maxSteps:=999999) (disch:=first|exact D (by decide)|exact K (by kernel_rfl)) only [E,EE,↓reduceIte,simprocAttr,xk B6 [2,3,2,2,1,2,2,2,2,2,2,2] (.cd 74) rfl,xk B6 [2,2,3,2,2,1,2,2,2,2,2,2,2] .sq rfl,rg B6 [1,2,2,3,2,2,1,2,2,2,2,2,2,2] 17 false rfl,hr_6_17,t_26,callStep,CL,gv,List.contains,xk B6 [2,2,2,3,2,2,1,2,2,2,2,2,2,2] .rt rfl,finK_norm,finK_ret,fin6,R6_aiirrzaiirrzi.st,hc3,hc10,hc18,h20,h25,hc28]
     ·simp (maxSteps:=999999) (disch:=first|exact D (by decide)|exact K (by kernel_rfl)) only [E,EE,↓reduceIte,simprocAttr,xk B6 [2,3,2,2,1,2,2,2,2,2,2,2] (.cd 74) rfl,hc3,hc10,hc18,h20,h25]
      rcases cond_some hF with ⟨h30,hF⟩ | ⟨h30,hF⟩
      ·obtain ⟨o31,h32,hF⟩ := bs hF
       have hc33 := f12_aiirrzii_ok k v11 v12 v13 v15 v14 2 _ h32
       cases o31 with
       | o0 v34 =>
        (try dsimp only at hF)
        (try simp only [NM,EE,R12_aiirrzii.st] at hc33)
        cases hF
        simp (maxSteps:=999999) (disch:=first|exact D (by decide)|exact K (by kernel_rfl)) only [E,EE,↓reduceIte,simprocAttr,xk B6 [2,2,3,2,2,1,2,2,2,2,2,2,2] .sq rfl,rg B6 [1,2,2,3,2,2,1,2,2,2,2,2,2,2] 17 false rfl,hr_6_17,t_26,callStep,CL,gv,List.contains,xk B6 [2,2,2,3,2,2,1,2,2,2,2,2,2,2] .rt rfl,finK_norm,finK_ret,fin6,R6_aiirrzaiirrzi.st,hc3,hc10,hc18,h20,h25,h30,hc33]
      ·have hJ := f6_aiirrzaiirrzi_j5_ok k x2 v14 false m3 m3_1 m3_2 m3_3 v11 v12 v13 v15 _ hF
       simp (maxSteps:=999999) (disch:=first|exact D (by decide)|exact K (by kernel_rfl)) only [E,EE,↓reduceIte,simprocAttr,xk B6 [3,2,3,2,2,1,2,2,2,2,2,2,2] .sk rfl,hc3,hc10,hc18,h20,h25,h30]
       try simp only [NM,EE] at hJ
       exact hJ
  | o1 v35 v36 v37 v38 v39 =>
   (try dsimp only at hF)
   (try simp only [NM,EE,R22_aiirrzi.st] at hc10)
   obtain ⟨o40,h41,hF⟩ := bs hF
   have hc42 := f11_aiirrz_ok k m3 m3_1 m3_2 m3_3 _ h41
   cases o40 with
   | o0 v43 =>
    (try dsimp only at hF)
    (try simp only [NM,EE,R11_aiirrz.st] at hc42)
    simp (maxSteps:=999999) (disch:=first|exact D (by decide)|exact K (by kernel_rfl)) only [E,EE,↓reduceIte,simprocAttr,t_26,xk B6 [2,2,2,2,2,2,2] .sq rfl,xk B6 [1,2,2,2,2,2,2,2] (.bk 0) rfl,xk B6 [2,1,2,2,2,2,2,2,2] .sq rfl,rg B6 [1,2,1,2,2,2,2,2,2,2] 14 false rfl,hr_6_14,callStep,CL,gv,List.contains,xk B6 [2,2,1,2,2,2,2,2,2,2] (.cd 67) rfl,hc3,hc10,hc42]
    rcases cond_some hF with ⟨h44,hF⟩ | ⟨h44,hF⟩
    ·obtain ⟨o45,h46,hF⟩ := bs hF
     have hc47 := f12_aiirrzii_ok k v35 v36 v38 v39 v37 290 _ h46
     cases o45 with
     | o0 v48 =>
      (try dsimp only at hF)
      (try simp only [NM,EE,R12_aiirrzii.st] at hc47)
      cases hF
      simp (maxSteps:=999999) (disch:=first|exact D (by decide)|exact K (by kernel_rfl)) only [E,EE,↓reduceIte,simprocAttr,xk B6 [2,2,2,1,2,2,2,2,2,2,2] .sq rfl,rg B6 [1,2,2,2,1,2,2,2,2,2,2,2] 15 false rfl,hr_6_15,t_26,callStep,CL,gv,List.contains,xk B6 [2,2,2,2,1,2,2,2,2,2,2,2] .rt rfl,finK_norm,finK_ret,fin6,R6_aiirrzaiirrzi.st,hc3,hc10,hc42,h44,hc47]
    ·simp (maxSteps:=999999) (disch:=first|exact D (by decide)|exact K (by kernel_rfl)) only [E,EE,↓reduceIte,simprocAttr,xk B6 [3,2,2,1,2,2,2,2,2,2,2] .sq rfl,rg B6 [1,3,2,2,1,2,2,2,2,2,2,2] 16 false rfl,hr_6_16,hc3,hc10,hc42,h44]
     rcases cond_some hF with ⟨h49,hF⟩ | ⟨h49,hF⟩
     ·obtain ⟨o50,h51,hF⟩ := bs hF
      have hc52 := f12_aiirrzii_ok k v35 v36 v38 v39 v37 2 _ h51
      cases o50 with
      | o0 v53 =>
       (try dsimp only at hF)
       (try simp only [NM,EE,R12_aiirrzii.st] at hc52)
       cases hF
       simp (maxSteps:=999999) (disch:=first|exact D (by decide)|exact K (by kernel_rfl)) only [E,EE,↓reduceIte,simprocAttr,xk B6 [2,3,2,2,1,2,2,2,2,2,2,2] (.cd 74) rfl,xk B6 [2,2,3,2,2,1,2,2,2,2,2,2,2] .sq rfl,rg B6 [1,2,2,3,2,2,1,2,2,2,2,2,2,2] 17 false rfl,hr_6_17,t_26,callStep,CL,gv,List.contains,xk B6 [2,2,2,3,2,2,1,2,2,2,2,2,2,2] .rt rfl,finK_norm,finK_ret,fin6,R6_aiirrzaiirrzi.st,hc3,hc10,hc42,h44,h49,hc52]
     ·simp (maxSteps:=999999) (disch:=first|exact D (by decide)|exact K (by kernel_rfl)) only [E,EE,↓reduceIte,simprocAttr,xk B6 [2,3,2,2,1,2,2,2,2,2,2,2] (.cd 74) rfl,hc3,hc10,hc42,h44,h49]
      rcases cond_some hF with ⟨h54,hF⟩ | ⟨h54,hF⟩
      ·obtain ⟨o55,h56,hF⟩ := bs hF
       have hc57 := f12_aiirrzii_ok k v35 v36 v38 v39 v37 2 _ h56
       cases o55 with
       | o0 v58 =>
        (try dsimp only at hF)
        (try simp only [NM,EE,R12_aiirrzii.st] at hc57)
        cases hF
        simp (maxSteps:=999999) (disch:=first|exact D (by decide)|exact K (by kernel_rfl)) only [E,EE,↓reduceIte,simprocAttr,xk B6 [2,2,3,2,2,1,2,2,2,2,2,2,2] .sq rfl,rg B6 [1,2,2,3,2,2,1,2,2,2,2,2,2,2] 17 false rfl,hr_6_17,t_26,callStep,CL,gv,List.contains,xk B6 [2,2,2,3,2,2,1,2,2,2,2,2,2,2] .rt rfl,finK_norm,finK_ret,fin6,R6_aiirrzaiirrzi.st,hc3,hc10,hc42,h44,h49,h54,hc57]
      ·have hJ := f6_aiirrzaiirrzi_j8_ok k x2 v37 false m3 m3_1 m3_2 m3_3 v35 v36 v38 v39 _ hF
       simp (maxSteps:=999999) (disch:=first|exact D (by decide)|exact K (by kernel_rfl)) only [E,EE,↓reduceIte,simprocAttr,xk B6 [3,2,3,2,2,1,2,2,2,2,2,2,2] .sk rfl,hc3,hc10,hc42,h44,h49,h54]
       try simp only [NM,EE] at hJ
       exact hJ
  | o2 v59 v60 v61 v62 v63 v64 v65 =>
   (try dsimp only at hF)
   (try simp only [NM,EE,R22_aiirrzi.st] at hc10)
   obtain ⟨o66,h67,hF⟩ := bs hF
   have hc68 := f11_aiirrz_ok k m3 m3_1 m3_2 m3_3 _ h67
   cases o66 with
   | o0 v69 =>
    (try dsimp only at hF)
    (try simp only [NM,EE,R11_aiirrz.st] at hc68)
    simp (maxSteps:=999999) (disch:=first|exact D (by decide)|exact K (by kernel_rfl)) only [E,EE,↓reduceIte,simprocAttr,t_26,xk B6 [2,2,2,2,2,2,2] .sq rfl,xk B6 [1,2,2,2,2,2,2,2] (.bk 0) rfl,xk B6 [2,1,2,2,2,2,2,2,2] .sq rfl,rg B6 [1,2,1,2,2,2,2,2,2,2] 14 false rfl,hr_6_14,callStep,CL,gv,List.contains,xk B6 [2,2,1,2,2,2,2,2,2,2] (.cd 67) rfl,hc3,hc10,hc68]
    rcases cond_some hF with ⟨h70,hF⟩ | ⟨h70,hF⟩
    ·obtain ⟨h71,hF⟩ := ifE_some.1 hF
     obtain ⟨o72,h73,hF⟩ := bs hF
     have hc74 := f12_aiirrzii_ok k v59 v60 v64 (List.take v62 (List.drop v61 v65)) v63 290 _ h73
     cases o72 with
     | o0 v75 =>
      (try dsimp only at hF)
      (try simp only [NM,EE,R12_aiirrzii.st] at hc74)
      cases hF
      simp (maxSteps:=999999) (disch:=first|exact D (by decide)|exact K (by kernel_rfl)) only [E,EE,↓reduceIte,simprocAttr,xk B6 [2,2,2,1,2,2,2,2,2,2,2] .sq rfl,rg B6 [1,2,2,2,1,2,2,2,2,2,2,2] 15 false rfl,hr_6_15,t_26,callStep,CL,gv,List.contains,xk B6 [2,2,2,2,1,2,2,2,2,2,2,2] .rt rfl,finK_norm,finK_ret,fin6,R6_aiirrzaiirrzi.st,hc3,hc10,hc68,h70,h71,hc74]
    ·simp (maxSteps:=999999) (disch:=first|exact D (by decide)|exact K (by kernel_rfl)) only [E,EE,↓reduceIte,simprocAttr,xk B6 [3,2,2,1,2,2,2,2,2,2,2] .sq rfl,rg B6 [1,3,2,2,1,2,2,2,2,2,2,2] 16 false rfl,hr_6_16,hc3,hc10,hc68,h70]
     rcases cond_some hF with ⟨h76,hF⟩ | ⟨h76,hF⟩
     ·obtain ⟨h77,hF⟩ := ifE_some.1 hF
      obtain ⟨o78,h79,hF⟩ := bs hF
      have hc80 := f12_aiirrzii_ok k v59 v60 v64 (List.take v62 (List.drop v61 v65)) v63 2 _ h79
      cases o78 with
      | o0 v81 =>
       (try dsimp only at hF)
       (try simp only [NM,EE,R12_aiirrzii.st] at hc80)
       cases hF
       simp (maxSteps:=999999) (disch:=first|exact D (by decide)|exact K (by kernel_rfl)) only [E,EE,↓reduceIte,simprocAttr,xk B6 [2,3,2,2,1,2,2,2,2,2,2,2] (.cd 74) rfl,xk B6 [2,2,3,2,2,1,2,2,2,2,2,2,2] .sq rfl,rg B6 [1,2,2,3,2,2,1,2,2,2,2,2,2,2] 17 false rfl,hr_6_17,t_26,callStep,CL,gv,List.contains,xk B6 [2,2,2,3,2,2,1,2,2,2,2,2,2,2] .rt rfl,finK_norm,finK_ret,fin6,R6_aiirrzaiirrzi.st,hc3,hc10,hc68,h70,h76,h77,hc80]
     ·simp (maxSteps:=999999) (disch:=first|exact D (by decide)|exact K (by kernel_rfl)) only [E,EE,↓reduceIte,simprocAttr,xk B6 [2,3,2,2,1,2,2,2,2,2,2,2] (.cd 74) rfl,hc3,hc10,hc68,h70,h76]
      rcases cond_some hF with ⟨h82,hF⟩ | ⟨h82,hF⟩
      ·obtain ⟨h83,hF⟩ := ifE_some.1 hF
       obtain ⟨o84,h85,hF⟩ := bs hF
       have hc86 := f12_aiirrzii_ok k v59 v60 v64 (List.take v62 (List.drop v61 v65)) v63 2 _ h85
       cases o84 with
       | o0 v87 =>
        (try dsimp only at hF)
        (try simp only [NM,EE,R12_aiirrzii.st] at hc86)
        cases hF
        simp (maxSteps:=999999) (disch:=first|exact D (by decide)|exact K (by kernel_rfl)) only [E,EE,↓reduceIte,simprocAttr,xk B6 [2,2,3,2,2,1,2,2,2,2,2,2,2] .sq rfl,rg B6 [1,2,2,3,2,2,1,2,2,2,2,2,2,2] 17 false rfl,hr_6_17,t_26,callStep,CL,gv,List.contains,xk B6 [2,2,2,3,2,2,1,2,2,2,2,2,2,2] .rt rfl,finK_norm,finK_ret,fin6,R6_aiirrzaiirrzi.st,hc3,hc10,hc68,h70,h76,h82,h83,hc86]
      ·have hJ := f6_aiirrzaiirrzi_j11_ok k x2 v63 false m3 m3_1 m3_2 m3_3 v59 v60 v61 v62 v64 v65 _ hF
       simp (maxSteps:=999999) (disch:=first|exact D (by decide)|exact K (by kernel_rfl)) only [E,EE,↓reduceIte,simprocAttr,xk B6 [3,2,3,2,2,1,2,2,2,2,2,2,2] .sk rfl,hc3,hc10,hc68,h70,h76,h82]
       try simp only [NM,EE] at hJ
       exact hJ
noncomputable def f6_aiirrzaiirrzi_j14 (k:Nat) (x2:Int) (x59:Bool) (m3 m3_1:Int) (m3_2:List T65) (m3_3:List T39) : Option R6_aiirrzaiirrzi :=
 Option.bind (f10_aiirrz k m3 m3_1 m3_2 m3_3) fun o1 =>
  match o1 with
  | .o0 v4 v5 v6 v7 =>
   Option.bind (f22_aiirrzi k v4 v5 v6 v7 x2) fun o8 =>
    match o8 with
    | .o0 v11 v12 v13 v14 v15 =>
     Option.bind (f11_aiirrz k m3 m3_1 m3_2 m3_3) fun o16 =>
      match o16 with
      | .o0 v19 =>
       cond ((!v19))
        (
         Option.bind (f12_aiirrzii k v11 v12 v13 v15 v14 290) fun o21 =>
          match o21 with
          | .o0 v24 =>
           some (R6_aiirrzaiirrzi.o0 v24))
        (
         cond ((decide (x2 < 0)))
          (
           Option.bind (f12_aiirrzii k v11 v12 v13 v15 v14 2) fun o26 =>
            match o26 with
            | .o0 v29 =>
             some (R6_aiirrzaiirrzi.o0 v29))
          (
           cond ((decide (x2 > 1048576)))
            (
             Option.bind (f12_aiirrzii k v11 v12 v13 v15 v14 2) fun o31 =>
              match o31 with
              | .o0 v34 =>
               some (R6_aiirrzaiirrzi.o0 v34))
            (f6_aiirrzaiirrzi_j5 k x2 v14 false m3 m3_1 m3_2 m3_3 v11 v12 v13 v15)))
    | .o1 v35 v36 v37 v38 v39 =>
     Option.bind (f11_aiirrz k m3 m3_1 m3_2 m3_3) fun o40 =>
      match o40 with
      | .o0 v43 =>
       cond ((!v43))
        (
         Option.bind (f12_aiirrzii k v35 v36 v38 v39 v37 290) fun o45 =>
          match o45 with
          | .o0 v48 =>
           some (R6_aiirrzaiirrzi.o0 v48))
        (
         cond ((decide (x2 < 0)))
          (
           Option.bind (f12_aiirrzii k v35 v36 v38 v39 v37 2) fun o50 =>
            match o50 with
            | .o0 v53 =>
             some (R6_aiirrzaiirrzi.o0 v53))
          (
           cond ((decide (x2 > 1048576)))
            (
             Option.bind (f12_aiirrzii k v35 v36 v38 v39 v37 2) fun o55 =>
              match o55 with
              | .o0 v58 =>
               some (R6_aiirrzaiirrzi.o0 v58))
            (f6_aiirrzaiirrzi_j8 k x2 v37 false m3 m3_1 m3_2 m3_3 v35 v36 v38 v39)))
    | .o2 v59 v60 v61 v62 v63 v64 v65 =>
     Option.bind (f11_aiirrz k m3 m3_1 m3_2 m3_3) fun o66 =>
      match o66 with
      | .o0 v69 =>
       cond ((!v69))
        (
         ifE ((v61 + v62) ≤ (List.length v65)) (
          Option.bind (f12_aiirrzii k v59 v60 v64 (List.take v62 (List.drop v61 v65)) v63 290) fun o72 =>
           match o72 with
           | .o0 v75 =>
            some (R6_aiirrzaiirrzi.o0 v75)))
        (
         cond ((decide (x2 < 0)))
          (
           ifE ((v61 + v62) ≤ (List.length v65)) (
            Option.bind (f12_aiirrzii k v59 v60 v64 (List.take v62 (List.drop v61 v65)) v63 2) fun o78 =>
             match o78 with
             | .o0 v81 =>
              some (R6_aiirrzaiirrzi.o0 v81)))
          (
           cond ((decide (x2 > 1048576)))
            (
             ifE ((v61 + v62) ≤ (List.length v65)) (
              Option.bind (f12_aiirrzii k v59 v60 v64 (List.take v62 (List.drop v61 v65)) v63 2) fun o84 =>
               match o84 with
               | .o0 v87 =>
                some (R6_aiirrzaiirrzi.o0 v87)))
            (f6_aiirrzaiirrzi_j11 k x2 v63 false m3 m3_1 m3_2 m3_3 v59 v60 v61 v62 v64 v65)))
theorem f6_aiirrzaiirrzi_j14_ok (k:Nat) (x2:Int) (x59:Bool) (m3 m3_1:Int) (m3_2:List T65) (m3_3:List T39) (r:R6_aiirrzaiirrzi) (hF:f6_aiirrzaiirrzi_j14 k x2 x59 m3 m3_1 m3_2 m3_3 = some r) : finK Try.prog Try.f6 0 (EX 6 k (nav B6 [2,2,2,2,2,2]) (⟨114,[(2,.p (.int .i64 x2)),(3,.ptr 3 0),(59,.p (.bool x59))],[(3,.box 26 [.p (.int .i64 m3),.p (.int .u32 m3_1),.sl 4 (rowsOf encT65 m3_2),.sl 11 (rowsOf encT39 m3_3)])]⟩ : St)) = some r.st := by
 unfold f6_aiirrzaiirrzi_j14 at hF
 obtain ⟨o1,h2,hF⟩ := bs hF
 have hc3 := f10_aiirrz_ok k m3 m3_1 m3_2 m3_3 _ h2
 cases o1 with
 | o0 v4 v5 v6 v7 =>
  (try dsimp only at hF)
  (try simp only [NM,EE,R10_aiirrz.st] at hc3)
  simp (maxSteps:=999999) (disch:=first|exact D (by decide)|exact K (by kernel_rfl)) only [E,EE,↓reduceIte,simprocAttr,xk B6 [2,2,2,2,2,2] .sq rfl,rg B6 [1,2,2,2,2,2,2] 13 false rfl,hr_6_13,t_26,callStep,CL,gv,List.contains,hc3]
  obtain ⟨o8,h9,hF⟩ := bs hF
  have hc10 := f22_aiirrzi_ok k v4 v5 v6 v7 x2 _ h9
  cases o8 with
  | o0 v11 v12 v13 v14 v15 =>
   (try dsimp only at hF)
   (try simp only [NM,EE,R22_aiirrzi.st] at hc10)
   obtain ⟨o16,h17,hF⟩ := bs hF
   have hc18 := f11_aiirrz_ok k m3 m3_1 m3_2 m3_3 _ h17
   cases o16 with
   | o0 v19 =>
    (try dsimp only at hF)
    (try simp only [NM,EE,R11_aiirrz.st] at hc18)
    simp (maxSteps:=999999) (disch:=first|exact D (by decide)|exact K (by kernel_rfl)) only [E,EE,↓reduceIte,simprocAttr,t_26,xk B6 [2,2,2,2,2,2,2] .sq rfl,xk B6 [1,2,2,2,2,2,2,2] (.bk 0) rfl,xk B6 [2,1,2,2,2,2,2,2,2] .sq rfl,rg B6 [1,2,1,2,2,2,2,2,2,2] 14 false rfl,hr_6_14,callStep,CL,gv,List.contains,xk B6 [2,2,1,2,2,2,2,2,2,2] (.cd 67) rfl,hc3,hc10,hc18]
    rcases cond_some hF with ⟨h20,hF⟩ | ⟨h20,hF⟩
    ·obtain ⟨o21,h22,hF⟩ := bs hF
     have hc23 := f12_aiirrzii_ok k v11 v12 v13 v15 v14 290 _ h22
     cases o21 with
     | o0 v24 =>
      (try dsimp only at hF)
      (try simp only [NM,EE,R12_aiirrzii.st] at hc23)
      cases hF
      simp (maxSteps:=999999) (disch:=first|exact D (by decide)|exact K (by kernel_rfl)) only [E,EE,↓reduceIte,simprocAttr,xk B6 [2,2,2,1,2,2,2,2,2,2,2] .sq rfl,rg B6 [1,2,2,2,1,2,2,2,2,2,2,2] 15 false rfl,hr_6_15,t_26,callStep,CL,gv,List.contains,xk B6 [2,2,2,2,1,2,2,2,2,2,2,2] .rt rfl,finK_norm,finK_ret,fin6,R6_aiirrzaiirrzi.st,hc3,hc10,hc18,h20,hc23]
    ·simp (maxSteps:=999999) (disch:=first|exact D (by decide)|exact K (by kernel_rfl)) only [E,EE,↓reduceIte,simprocAttr,xk B6 [3,2,2,1,2,2,2,2,2,2,2] .sq rfl,rg B6 [1,3,2,2,1,2,2,2,2,2,2,2] 16 false rfl,hr_6_16,hc3,hc10,hc18,h20]
     rcases cond_some hF with ⟨h25,hF⟩ | ⟨h25,hF⟩
     ·obtain ⟨o26,h27,hF⟩ := bs hF
      have hc28 := f12_aiirrzii_ok k v11 v12 v13 v15 v14 2 _ h27
      cases o26 with
      | o0 v29 =>
       (try dsimp only at hF)
       (try simp only [NM,EE,R12_aiirrzii.st] at hc28)
       cases hF
       simp (maxSteps:=999999) (disch:=first|exact D (by decide)|exact K (by kernel_rfl)) only [E,EE,↓reduceIte,simprocAttr,xk B6 [2,3,2,2,1,2,2,2,2,2,2,2] (.cd 74) rfl,xk B6 [2,2,3,2,2,1,2,2,2,2,2,2,2] .sq rfl,rg B6 [1,2,2,3,2,2,1,2,2,2,2,2,2,2] 17 false rfl,hr_6_17,t_26,callStep,CL,gv,List.contains,xk B6 [2,2,2,3,2,2,1,2,2,2,2,2,2,2] .rt rfl,finK_norm,finK_ret,fin6,R6_aiirrzaiirrzi.st,hc3,hc10,hc18,h20,h25,hc28]
     ·simp (maxSteps:=999999) (disch:=first|exact D (by decide)|exact K (by kernel_rfl)) only [E,EE,↓reduceIte,simprocAttr,xk B6 [2,3,2,2,1,2,2,2,2,2,2,2] (.cd 74) rfl,hc3,hc10,hc18,h20,h25]
      rcases cond_some hF with ⟨h30,hF⟩ | ⟨h30,hF⟩
      ·obtain ⟨o31,h32,hF⟩ := bs hF
       have hc33 := f12_aiirrzii_ok k v11 v12 v13 v15 v14 2 _ h32
       cases o31 with
       | o0 v34 =>
        (try dsimp only at hF)
        (try simp only [NM,EE,R12_aiirrzii.st] at hc33)
        cases hF
        simp (maxSteps:=999999) (disch:=first|exact D (by decide)|exact K (by kernel_rfl)) only [E,EE,↓reduceIte,simprocAttr,xk B6 [2,2,3,2,2,1,2,2,2,2,2,2,2] .sq rfl,rg B6 [1,2,2,3,2,2,1,2,2,2,2,2,2,2] 17 false rfl,hr_6_17,t_26,callStep,CL,gv,List.contains,xk B6 [2,2,2,3,2,2,1,2,2,2,2,2,2,2] .rt rfl,finK_norm,finK_ret,fin6,R6_aiirrzaiirrzi.st,hc3,hc10,hc18,h20,h25,h30,hc33]
      ·have hJ := f6_aiirrzaiirrzi_j5_ok k x2 v14 false m3 m3_1 m3_2 m3_3 v11 v12 v13 v15 _ hF
       simp (maxSteps:=999999) (disch:=first|exact D (by decide)|exact K (by kernel_rfl)) only [E,EE,↓reduceIte,simprocAttr,xk B6 [3,2,3,2,2,1,2,2,2,2,2,2,2] .sk rfl,hc3,hc10,hc18,h20,h25,h30]
       try simp only [NM,EE] at hJ
       exact hJ
  | o1 v35 v36 v37 v38 v39 =>
   (try dsimp only at hF)
   (try simp only [NM,EE,R22_aiirrzi.st] at hc10)
   obtain ⟨o40,h41,hF⟩ := bs hF
   have hc42 := f11_aiirrz_ok k m3 m3_1 m3_2 m3_3 _ h41
   cases o40 with
   | o0 v43 =>
    (try dsimp only at hF)
    (try simp only [NM,EE,R11_aiirrz.st] at hc42)
    simp (maxSteps:=999999) (disch:=first|exact D (by decide)|exact K (by kernel_rfl)) only [E,EE,↓reduceIte,simprocAttr,t_26,xk B6 [2,2,2,2,2,2,2] .sq rfl,xk B6 [1,2,2,2,2,2,2,2] (.bk 0) rfl,xk B6 [2,1,2,2,2,2,2,2,2] .sq rfl,rg B6 [1,2,1,2,2,2,2,2,2,2] 14 false rfl,hr_6_14,callStep,CL,gv,List.contains,xk B6 [2,2,1,2,2,2,2,2,2,2] (.cd 67) rfl,hc3,hc10,hc42]
    rcases cond_some hF with ⟨h44,hF⟩ | ⟨h44,hF⟩
    ·obtain ⟨o45,h46,hF⟩ := bs hF
     have hc47 := f12_aiirrzii_ok k v35 v36 v38 v39 v37 290 _ h46
     cases o45 with
     | o0 v48 =>
      (try dsimp only at hF)
      (try simp only [NM,EE,R12_aiirrzii.st] at hc47)
      cases hF
      simp (maxSteps:=999999) (disch:=first|exact D (by decide)|exact K (by kernel_rfl)) only [E,EE,↓reduceIte,simprocAttr,xk B6 [2,2,2,1,2,2,2,2,2,2,2] .sq rfl,rg B6 [1,2,2,2,1,2,2,2,2,2,2,2] 15 false rfl,hr_6_15,t_26,callStep,CL,gv,List.contains,xk B6 [2,2,2,2,1,2,2,2,2,2,2,2] .rt rfl,finK_norm,finK_ret,fin6,R6_aiirrzaiirrzi.st,hc3,hc10,hc42,h44,hc47]
    ·simp (maxSteps:=999999) (disch:=first|exact D (by decide)|exact K (by kernel_rfl)) only [E,EE,↓reduceIte,simprocAttr,xk B6 [3,2,2,1,2,2,2,2,2,2,2] .sq rfl,rg B6 [1,3,2,2,1,2,2,2,2,2,2,2] 16 false rfl,hr_6_16,hc3,hc10,hc42,h44]
     rcases cond_some hF with ⟨h49,hF⟩ | ⟨h49,hF⟩
     ·obtain ⟨o50,h51,hF⟩ := bs hF
      have hc52 := f12_aiirrzii_ok k v35 v36 v38 v39 v37 2 _ h51
      cases o50 with
      | o0 v53 =>
       (try dsimp only at hF)
       (try simp only [NM,EE,R12_aiirrzii.st] at hc52)
       cases hF
       simp (maxSteps:=999999) (disch:=first|exact D (by decide)|exact K (by kernel_rfl)) only [E,EE,↓reduceIte,simprocAttr,xk B6 [2,3,2,2,1,2,2,2,2,2,2,2] (.cd 74) rfl,xk B6 [2,2,3,2,2,1,2,2,2,2,2,2,2] .sq rfl,rg B6 [1,2,2,3,2,2,1,2,2,2,2,2,2,2] 17 false rfl,hr_6_17,t_26,callStep,CL,gv,List.contains,xk B6 [2,2,2,3,2,2,1,2,2,2,2,2,2,2] .rt rfl,finK_norm,finK_ret,fin6,R6_aiirrzaiirrzi.st,hc3,hc10,hc42,h44,h49,hc52]
     ·simp (maxSteps:=999999) (disch:=first|exact D (by decide)|exact K (by kernel_rfl)) only [E,EE,↓reduceIte,simprocAttr,xk B6 [2,3,2,2,1,2,2,2,2,2,2,2] (.cd 74) rfl,hc3,hc10,hc42,h44,h49]
      rcases cond_some hF with ⟨h54,hF⟩ | ⟨h54,hF⟩
      ·obtain ⟨o55,h56,hF⟩ := bs hF
       have hc57 := f12_aiirrzii_ok k v35 v36 v38 v39 v37 2 _ h56
       cases o55 with
       | o0 v58 =>
        (try dsimp only at hF)
        (try simp only [NM,EE,R12_aiirrzii.st] at hc57)
        cases hF
        simp (maxSteps:=999999) (disch:=first|exact D (by decide)|exact K (by kernel_rfl)) only [E,EE,↓reduceIte,simprocAttr,xk B6 [2,2,3,2,2,1,2,2,2,2,2,2,2] .sq rfl,rg B6 [1,2,2,3,2,2,1,2,2,2,2,2,2,2] 17 false rfl,hr_6_17,t_26,callStep,CL,gv,List.contains,xk B6 [2,2,2,3,2,2,1,2,2,2,2,2,2,2] .rt rfl,finK_norm,finK_ret,fin6,R6_aiirrzaiirrzi.st,hc3,hc10,hc42,h44,h49,h54,hc57]
      ·have hJ := f6_aiirrzaiirrzi_j8_ok k x2 v37 false m3 m3_1 m3_2 m3_3 v35 v36 v38 v39 _ hF
       simp (maxSteps:=999999) (disch:=first|exact D (by decide)|exact K (by kernel_rfl)) only [E,EE,↓reduceIte,simprocAttr,xk B6 [3,2,3,2,2,1,2,2,2,2,2,2,2] .sk rfl,hc3,hc10,hc42,h44,h49,h54]
       try simp only [NM,EE] at hJ
       exact hJ
  | o2 v59 v60 v61 v62 v63 v64 v65 =>
   (try dsimp only at hF)
   (try simp only [NM,EE,R22_aiirrzi.st] at hc10)
   obtain ⟨o66,h67,hF⟩ := bs hF
   have hc68 := f11_aiirrz_ok k m3 m3_1 m3_2 m3_3 _ h67
   cases o66 with
   | o0 v69 =>
    (try dsimp only at hF)
    (try simp only [NM,EE,R11_aiirrz.st] at hc68)
    simp (maxSteps:=999999) (disch:=first|exact D (by decide)|exact K (by kernel_rfl)) only [E,EE,↓reduceIte,simprocAttr,t_26,xk B6 [2,2,2,2,2,2,2] .sq rfl,xk B6 [1,2,2,2,2,2,2,2] (.bk 0) rfl,xk B6 [2,1,2,2,2,2,2,2,2] .sq rfl,rg B6 [1,2,1,2,2,2,2,2,2,2] 14 false rfl,hr_6_14,callStep,CL,gv,List.contains,xk B6 [2,2,1,2,2,2,2,2,2,2] (.cd 67) rfl,hc3,hc10,hc68]
    rcases cond_some hF with ⟨h70,hF⟩ | ⟨h70,hF⟩
    ·obtain ⟨h71,hF⟩ := ifE_some.1 hF
     obtain ⟨o72,h73,hF⟩ := bs hF
     have hc74 := f12_aiirrzii_ok k v59 v60 v64 (List.take v62 (List.drop v61 v65)) v63 290 _ h73
     cases o72 with
     | o0 v75 =>
      (try dsimp only at hF)
      (try simp only [NM,EE,R12_aiirrzii.st] at hc74)
      cases hF
      simp (maxSteps:=999999) (disch:=first|exact D (by decide)|exact K (by kernel_rfl)) only [E,EE,↓reduceIte,simprocAttr,xk B6 [2,2,2,1,2,2,2,2,2,2,2] .sq rfl,rg B6 [1,2,2,2,1,2,2,2,2,2,2,2] 15 false rfl,hr_6_15,t_26,callStep,CL,gv,List.contains,xk B6 [2,2,2,2,1,2,2,2,2,2,2,2] .rt rfl,finK_norm,finK_ret,fin6,R6_aiirrzaiirrzi.st,hc3,hc10,hc68,h70,h71,hc74]
    ·simp (maxSteps:=999999) (disch:=first|exact D (by decide)|exact K (by kernel_rfl)) only [E,EE,↓reduceIte,simprocAttr,xk B6 [3,2,2,1,2,2,2,2,2,2,2] .sq rfl,rg B6 [1,3,2,2,1,2,2,2,2,2,2,2] 16 false rfl,hr_6_16,hc3,hc10,hc68,h70]
     rcases cond_some hF with ⟨h76,hF⟩ | ⟨h76,hF⟩
     ·obtain ⟨h77,hF⟩ := ifE_some.1 hF
      obtain ⟨o78,h79,hF⟩ := bs hF
      have hc80 := f12_aiirrzii_ok k v59 v60 v64 (List.take v62 (List.drop v61 v65)) v63 2 _ h79
      cases o78 with
      | o0 v81 =>
       (try dsimp only at hF)
       (try simp only [NM,EE,R12_aiirrzii.st] at hc80)
       cases hF
       simp (maxSteps:=999999) (disch:=first|exact D (by decide)|exact K (by kernel_rfl)) only [E,EE,↓reduceIte,simprocAttr,xk B6 [2,3,2,2,1,2,2,2,2,2,2,2] (.cd 74) rfl,xk B6 [2,2,3,2,2,1,2,2,2,2,2,2,2] .sq rfl,rg B6 [1,2,2,3,2,2,1,2,2,2,2,2,2,2] 17 false rfl,hr_6_17,t_26,callStep,CL,gv,List.contains,xk B6 [2,2,2,3,2,2,1,2,2,2,2,2,2,2] .rt rfl,finK_norm,finK_ret,fin6,R6_aiirrzaiirrzi.st,hc3,hc10,hc68,h70,h76,h77,hc80]
     ·simp (maxSteps:=999999) (disch:=first|exact D (by decide)|exact K (by kernel_rfl)) only [E,EE,↓reduceIte,simprocAttr,xk B6 [2,3,2,2,1,2,2,2,2,2,2,2] (.cd 74) rfl,hc3,hc10,hc68,h70,h76]
      rcases cond_some hF with ⟨h82,hF⟩ | ⟨h82,hF⟩
      ·obtain ⟨h83,hF⟩ := ifE_some.1 hF
       obtain ⟨o84,h85,hF⟩ := bs hF
       have hc86 := f12_aiirrzii_ok k v59 v60 v64 (List.take v62 (List.drop v61 v65)) v63 2 _ h85
       cases o84 with
       | o0 v87 =>
        (try dsimp only at hF)
        (try simp only [NM,EE,R12_aiirrzii.st] at hc86)
        cases hF
        simp (maxSteps:=999999) (disch:=first|exact D (by decide)|exact K (by kernel_rfl)) only [E,EE,↓reduceIte,simprocAttr,xk B6 [2,2,3,2,2,1,2,2,2,2,2,2,2] .sq rfl,rg B6 [1,2,2,3,2,2,1,2,2,2,2,2,2,2] 17 false rfl,hr_6_17,t_26,callStep,CL,gv,List.contains,xk B6 [2,2,2,3,2,2,1,2,2,2,2,2,2,2] .rt rfl,finK_norm,finK_ret,fin6,R6_aiirrzaiirrzi.st,hc3,hc10,hc68,h70,h76,h82,h83,hc86]
      ·have hJ := f6_aiirrzaiirrzi_j11_ok k x2 v63 false m3 m3_1 m3_2 m3_3 v59 v60 v61 v62 v64 v65 _ hF
       simp (maxSteps:=999999) (disch:=first|exact D (by decide)|exact K (by kernel_rfl)) only [E,EE,↓reduceIte,simprocAttr,xk B6 [3,2,3,2,2,1,2,2,2,2,2,2,2] .sk rfl,hc3,hc10,hc68,h70,h76,h82]
       try simp only [NM,EE] at hJ
       exact hJ
noncomputable def f6_aiirrzaiirrzi_j3 (k:Nat) (x2:Int) (x35:Bool) (m3 m3_1:Int) (m3_2:List T65) (m3_3:List T39) : Option R6_aiirrzaiirrzi :=
 Option.bind (f16_i k x2) fun o1 =>
  match o1 with
  | .o0 v4 v5 v6 v7 v8 =>
   cond ((decide (x2 < 1)))
    (
     Option.bind (f12_aiirrzii k v4 v5 v6 v7 v8 2) fun o10 =>
      match o10 with
      | .o0 v13 =>
       cond ((!v13))
        (some (R6_aiirrzaiirrzi.o0 false))
        (f6_aiirrzaiirrzi_j4 k x2 false m3 m3_1 m3_2 m3_3))
    (
     cond ((decide (x2 > 6)))
      (
       Option.bind (f12_aiirrzii k v4 v5 v6 v7 v8 2) fun o16 =>
        match o16 with
        | .o0 v19 =>
         cond ((!v19))
          (some (R6_aiirrzaiirrzi.o0 false))
          (f6_aiirrzaiirrzi_j4 k x2 false m3 m3_1 m3_2 m3_3))
      (
       cond ((v8 != 0))
        (some (R6_aiirrzaiirrzi.o0 false))
        (
         Option.bind (f15_aiirrzaiinnz k v4 v5 v6 v7 x2 1) fun o22 =>
          match o22 with
          | .o0 v25 =>
           cond ((!v25))
            (some (R6_aiirrzaiirrzi.o0 false))
            (f6_aiirrzaiirrzi_j14 k x2 false m3 m3_1 m3_2 m3_3))))
theorem f6_aiirrzaiirrzi_j3_ok (k:Nat) (x2:Int) (x35:Bool) (m3 m3_1:Int) (m3_2:List T65) (m3_3:List T39) (r:R6_aiirrzaiirrzi) (hF:f6_aiirrzaiirrzi_j3 k x2 x35 m3 m3_1 m3_2 m3_3 = some r) : finK Try.prog Try.f6 0 (EX 6 k (nav B6 [2,2,2,2]) (⟨114,[(2,.p (.int .i64 x2)),(3,.ptr 3 0),(35,.p (.bool x35))],[(3,.box 26 [.p (.int .i64 m3),.p (.int .u32 m3_1),.sl 4 (rowsOf encT65 m3_2),.sl 11 (rowsOf encT39 m3_3)])]⟩ : St)) = some r.st := by
 unfold f6_aiirrzaiirrzi_j3 at hF
 obtain ⟨o1,h2,hF⟩ := bs hF
 have hc3 := f16_i_ok k x2 _ h2
 cases o1 with
 | o0 v4 v5 v6 v7 v8 =>
  (try dsimp only at hF)
  (try simp only [NM,EE,R16_i.st] at hc3)
  simp (maxSteps:=999999) (disch:=first|exact D (by decide)|exact K (by kernel_rfl)) only [E,EE,↓reduceIte,simprocAttr,xk B6 [2,2,2,2] .sq rfl,rg B6 [1,2,2,2,2] 7 false rfl,hr_6_7,callStep,CL,gv,List.contains,t_26,xk B6 [2,2,2,2,2] .sq rfl,xk B6 [1,2,2,2,2,2] .sq rfl,rg B6 [1,1,2,2,2,2,2] 8 false rfl,hr_6_8,hc3]
  rcases cond_some hF with ⟨h9,hF⟩ | ⟨h9,hF⟩
  ·obtain ⟨o10,h11,hF⟩ := bs hF
   have hc12 := f12_aiirrzii_ok k v4 v5 v6 v7 v8 2 _ h11
   cases o10 with
   | o0 v13 =>
    (try dsimp only at hF)
    (try simp only [NM,EE,R12_aiirrzii.st] at hc12)
    simp (maxSteps:=999999) (disch:=first|exact D (by decide)|exact K (by kernel_rfl)) only [E,EE,↓reduceIte,simprocAttr,xk B6 [2,1,2,2,2,2,2] (.cd 46) rfl,xk B6 [2,2,1,2,2,2,2,2] .sq rfl,rg B6 [1,2,2,1,2,2,2,2,2] 9 false rfl,hr_6_9,t_26,callStep,CL,gv,List.contains,xk B6 [2,2,2,1,2,2,2,2,2] (.cd 50) rfl,hc3,h9,hc12]
    rcases cond_some hF with ⟨h14,hF⟩ | ⟨h14,hF⟩
    ·cases hF
     simp (maxSteps:=999999) (disch:=first|exact D (by decide)|exact K (by kernel_rfl)) only [E,EE,↓reduceIte,simprocAttr,xk B6 [2,2,2,2,1,2,2,2,2,2] .sq rfl,rg B6 [1,2,2,2,2,1,2,2,2,2,2] 10 false rfl,hr_6_10,xk B6 [2,2,2,2,2,1,2,2,2,2,2] .rt rfl,finK_norm,finK_ret,fin6,R6_aiirrzaiirrzi.st,hc3,h9,hc12,h14]
    ·have hJ := f6_aiirrzaiirrzi_j4_ok k x2 false m3 m3_1 m3_2 m3_3 _ hF
     simp (maxSteps:=999999) (disch:=first|exact D (by decide)|exact K (by kernel_rfl)) only [E,EE,↓reduceIte,simprocAttr,xk B6 [3,2,2,2,1,2,2,2,2,2] .sk rfl,hc3,h9,hc12,h14]
     try simp only [NM,EE] at hJ
     exact hJ
  ·simp (maxSteps:=999999) (disch:=first|exact D (by decide)|exact K (by kernel_rfl)) only [E,EE,↓reduceIte,simprocAttr,xk B6 [2,1,2,2,2,2,2] (.cd 46) rfl,hc3,h9]
   rcases cond_some hF with ⟨h15,hF⟩ | ⟨h15,hF⟩
   ·obtain ⟨o16,h17,hF⟩ := bs hF
    have hc18 := f12_aiirrzii_ok k v4 v5 v6 v7 v8 2 _ h17
    cases o16 with
    | o0 v19 =>
     (try dsimp only at hF)
     (try simp only [NM,EE,R12_aiirrzii.st] at hc18)
     simp (maxSteps:=999999) (disch:=first|exact D (by decide)|exact K (by kernel_rfl)) only [E,EE,↓reduceIte,simprocAttr,xk B6 [2,2,1,2,2,2,2,2] .sq rfl,rg B6 [1,2,2,1,2,2,2,2,2] 9 false rfl,hr_6_9,t_26,callStep,CL,gv,List.contains,xk B6 [2,2,2,1,2,2,2,2,2] (.cd 50) rfl,hc3,h9,h15,hc18]
     rcases cond_some hF with ⟨h20,hF⟩ | ⟨h20,hF⟩
     ·cases hF
      simp (maxSteps:=999999) (disch:=first|exact D (by decide)|exact K (by kernel_rfl)) only [E,EE,↓reduceIte,simprocAttr,xk B6 [2,2,2,2,1,2,2,2,2,2] .sq rfl,rg B6 [1,2,2,2,2,1,2,2,2,2,2] 10 false rfl,hr_6_10,xk B6 [2,2,2,2,2,1,2,2,2,2,2] .rt rfl,finK_norm,finK_ret,fin6,R6_aiirrzaiirrzi.st,hc3,h9,h15,hc18,h20]
     ·have hJ := f6_aiirrzaiirrzi_j4_ok k x2 false m3 m3_1 m3_2 m3_3 _ hF
      simp (maxSteps:=999999) (disch:=first|exact D (by decide)|exact K (by kernel_rfl)) only [E,EE,↓reduceIte,simprocAttr,xk B6 [3,2,2,2,1,2,2,2,2,2] .sk rfl,hc3,h9,h15,hc18,h20]
      try simp only [NM,EE] at hJ
      exact hJ
   ·simp (maxSteps:=999999) (disch:=first|exact D (by decide)|exact K (by kernel_rfl)) only [E,EE,↓reduceIte,simprocAttr,xk B6 [3,2,1,2,2,2,2,2] .sq rfl,rg B6 [1,3,2,1,2,2,2,2,2] 11 false rfl,hr_6_11,hc3,h9,h15]
    rcases cond_some hF with ⟨h21,hF⟩ | ⟨h21,hF⟩
    ·cases hF
     simp (maxSteps:=999999) (disch:=first|exact D (by decide)|exact K (by kernel_rfl)) only [E,EE,↓reduceIte,simprocAttr,xk B6 [2,3,2,1,2,2,2,2,2] (.cd 59) rfl,xk B6 [2,2,3,2,1,2,2,2,2,2] .sq rfl,rg B6 [1,2,2,3,2,1,2,2,2,2,2] 12 false rfl,hr_6_12,xk B6 [2,2,2,3,2,1,2,2,2,2,2] .rt rfl,finK_norm,finK_ret,fin6,R6_aiirrzaiirrzi.st,hc3,h9,h15,h21]
    ·obtain ⟨o22,h23,hF⟩ := bs hF
     have hc24 := f15_aiirrzaiinnz_ok k v4 v5 v6 v7 x2 1 _ h23
     cases o22 with
     | o0 v25 =>
      (try dsimp only at hF)
      (try simp only [NM,EE,R15_aiirrzaiinnz.st] at hc24)
      simp (maxSteps:=999999) (disch:=first|exact D (by decide)|exact K (by kernel_rfl)) only [E,EE,↓reduceIte,simprocAttr,t_26,bl_26,callStep,CL,gv,List.contains,xk B6 [2,3,2,1,2,2,2,2,2] (.cd 59) rfl,hc3,h9,h15,h21,hc24]
      rcases cond_some hF with ⟨h26,hF⟩ | ⟨h26,hF⟩
      ·cases hF
       simp (maxSteps:=999999) (disch:=first|exact D (by decide)|exact K (by kernel_rfl)) only [E,EE,↓reduceIte,simprocAttr,xk B6 [2,2,3,2,1,2,2,2,2,2] .sq rfl,rg B6 [1,2,2,3,2,1,2,2,2,2,2] 12 false rfl,hr_6_12,xk B6 [2,2,2,3,2,1,2,2,2,2,2] .rt rfl,finK_norm,finK_ret,fin6,R6_aiirrzaiirrzi.st,hc3,h9,h15,h21,hc24,h26]
      ·have hJ := f6_aiirrzaiirrzi_j14_ok k x2 false m3 m3_1 m3_2 m3_3 _ hF
       simp (maxSteps:=999999) (disch:=first|exact D (by decide)|exact K (by kernel_rfl)) only [E,EE,↓reduceIte,simprocAttr,xk B6 [3,2,3,2,1,2,2,2,2,2] .sk rfl,hc3,h9,h15,h21,hc24,h26]
       try simp only [NM,EE] at hJ
       exact hJ
noncomputable def f6_aiirrzaiirrzi_j2 (k:Nat) (x2:Int) (x21:Bool) (m3 m3_1:Int) (m3_2:List T65) (m3_3:List T39) (m4 m4_1:Int) (m4_2:List T65) (m4_3:List T39) : Option R6_aiirrzaiirrzi :=
 Option.bind (f21_aiirrzaiirrz k m3 m3_1 m3_2 m3_3 m4 m4_1 m4_2 m4_3) fun o1 =>
  match o1 with
  | .o0 v4 =>
   Option.bind (f15_aiirrzaiirrz k m3 m3_1 m3_2 m3_3 m4 m4_1 m4_2 m4_3) fun o5 =>
    match o5 with
    | .o0 v8 =>
     cond ((!(v4 == v8)))
      (some (R6_aiirrzaiirrzi.o0 false))
      (
       Option.bind (f10_aiirrz k m3 m3_1 m3_2 m3_3) fun o10 =>
        match o10 with
        | .o0 v13 v14 v15 v16 =>
         Option.bind (f21_aiirrzaiirrz k m3 m3_1 m3_2 m3_3 v13 v14 v15 v16) fun o17 =>
          match o17 with
          | .o0 v20 =>
           cond ((!v20))
            (some (R6_aiirrzaiirrzi.o0 false))
            (f6_aiirrzaiirrzi_j3 k x2 false m3 m3_1 m3_2 m3_3))
theorem f6_aiirrzaiirrzi_j2_ok (k:Nat) (x2:Int) (x21:Bool) (m3 m3_1:Int) (m3_2:List T65) (m3_3:List T39) (m4 m4_1:Int) (m4_2:List T65) (m4_3:List T39) (r:R6_aiirrzaiirrzi) (hF:f6_aiirrzaiirrzi_j2 k x2 x21 m3 m3_1 m3_2 m3_3 m4 m4_1 m4_2 m4_3 = some r) : finK Try.prog Try.f6 0 (EX 6 k (nav B6 [2,2,2]) (⟨114,[(2,.p (.int .i64 x2)),(3,.ptr 3 0),(4,.ptr 4 0),(21,.p (.bool x21))],[(3,.box 26 [.p (.int .i64 m3),.p (.int .u32 m3_1),.sl 4 (rowsOf encT65 m3_2),.sl 11 (rowsOf encT39 m3_3)]),(4,.box 26 [.p (.int .i64 m4),.p (.int .u32 m4_1),.sl 4 (rowsOf encT65 m4_2),.sl 11 (rowsOf encT39 m4_3)])]⟩ : St)) = some r.st := by
 unfold f6_aiirrzaiirrzi_j2 at hF
 obtain ⟨o1,h2,hF⟩ := bs hF
 have hc3 := f21_aiirrzaiirrz_ok k m3 m3_1 m3_2 m3_3 m4 m4_1 m4_2 m4_3 _ h2
 cases o1 with
 | o0 v4 =>
  (try dsimp only at hF)
  (try simp only [NM,EE,R21_aiirrzaiirrz.st] at hc3)
  obtain ⟨o5,h6,hF⟩ := bs hF
  have hc7 := f15_aiirrzaiirrz_ok k m3 m3_1 m3_2 m3_3 m4 m4_1 m4_2 m4_3 _ h6
  cases o5 with
  | o0 v8 =>
   (try dsimp only at hF)
   (try simp only [NM,EE,R15_aiirrzaiirrz.st] at hc7)
   simp (maxSteps:=999999) (disch:=first|exact D (by decide)|exact K (by kernel_rfl)) only [E,EE,↓reduceIte,simprocAttr,xk B6 [2,2,2] .sq rfl,xk B6 [1,2,2,2] .sq rfl,rg B6 [1,1,2,2,2] 5 true rfl,hr_6_5,t_26,callStep,CL,gv,List.contains,t_4,hc3,hc7]
   rcases cond_some hF with ⟨h9,hF⟩ | ⟨h9,hF⟩
   ·cases hF
    simp (maxSteps:=999999) (disch:=first|exact D (by decide)|exact K (by kernel_rfl)) only [E,EE,↓reduceIte,simprocAttr,xk B6 [2,1,2,2,2] (.cd 35) rfl,xk B6 [2,2,1,2,2,2] .sq rfl,rg B6 [1,2,2,1,2,2,2] 6 false rfl,hr_6_6,xk B6 [2,2,2,1,2,2,2] .rt rfl,finK_norm,finK_ret,fin6,R6_aiirrzaiirrzi.st,hc3,hc7,h9]
   ·obtain ⟨o10,h11,hF⟩ := bs hF
    have hc12 := f10_aiirrz_ok k m3 m3_1 m3_2 m3_3 _ h11
    cases o10 with
    | o0 v13 v14 v15 v16 =>
     (try dsimp only at hF)
     (try simp only [NM,EE,R10_aiirrz.st] at hc12)
     obtain ⟨o17,h18,hF⟩ := bs hF
     have hc19 := f21_aiirrzaiirrz_ok k m3 m3_1 m3_2 m3_3 v13 v14 v15 v16 _ h18
     cases o17 with
     | o0 v20 =>
      (try dsimp only at hF)
      (try simp only [NM,EE,R21_aiirrzaiirrz.st] at hc19)
      simp (maxSteps:=999999) (disch:=first|exact D (by decide)|exact K (by kernel_rfl)) only [E,EE,↓reduceIte,simprocAttr,t_26,callStep,CL,gv,List.contains,xk B6 [2,1,2,2,2] (.cd 35) rfl,hc3,hc7,h9,hc12,hc19]
      rcases cond_some hF with ⟨h21,hF⟩ | ⟨h21,hF⟩
      ·cases hF
       simp (maxSteps:=999999) (disch:=first|exact D (by decide)|exact K (by kernel_rfl)) only [E,EE,↓reduceIte,simprocAttr,xk B6 [2,2,1,2,2,2] .sq rfl,rg B6 [1,2,2,1,2,2,2] 6 false rfl,hr_6_6,xk B6 [2,2,2,1,2,2,2] .rt rfl,finK_norm,finK_ret,fin6,R6_aiirrzaiirrzi.st,hc3,hc7,h9,hc12,hc19,h21]
      ·have hJ := f6_aiirrzaiirrzi_j3_ok k x2 false m3 m3_1 m3_2 m3_3 _ hF
       simp (maxSteps:=999999) (disch:=first|exact D (by decide)|exact K (by kernel_rfl)) only [E,EE,↓reduceIte,simprocAttr,xk B6 [3,2,1,2,2,2] .sk rfl,hc3,hc7,h9,hc12,hc19,h21]
       try simp only [NM,EE] at hJ
       exact hJ
noncomputable def f6_aiirrzaiirrzi_j1 (k:Nat) (x2:Int) (x15:Bool) (m3 m3_1:Int) (m3_2:List T65) (m3_3:List T39) (m4 m4_1:Int) (m4_2:List T65) (m4_3:List T39) : Option R6_aiirrzaiirrzi :=
 Option.bind (f8_aiirrzn k m3 m3_1 m3_2 m3_3) fun o1 =>
  match o1 with
  | .o0 v4 =>
   cond (v4)
    (some (R6_aiirrzaiirrzi.o0 true))
    (
     Option.bind (f8_aiirrzn k m4 m4_1 m4_2 m4_3) fun o6 =>
      match o6 with
      | .o0 v9 =>
       cond (v9)
        (some (R6_aiirrzaiirrzi.o0 true))
        (f6_aiirrzaiirrzi_j2 k x2 false m3 m3_1 m3_2 m3_3 m4 m4_1 m4_2 m4_3))
theorem f6_aiirrzaiirrzi_j1_ok (k:Nat) (x2:Int) (x15:Bool) (m3 m3_1:Int) (m3_2:List T65) (m3_3:List T39) (m4 m4_1:Int) (m4_2:List T65) (m4_3:List T39) (r:R6_aiirrzaiirrzi) (hF:f6_aiirrzaiirrzi_j1 k x2 x15 m3 m3_1 m3_2 m3_3 m4 m4_1 m4_2 m4_3 = some r) : finK Try.prog Try.f6 0 (EX 6 k (nav B6 [2,2]) (⟨114,[(2,.p (.int .i64 x2)),(3,.ptr 3 0),(4,.ptr 4 0),(15,.p (.bool x15))],[(3,.box 26 [.p (.int .i64 m3),.p (.int .u32 m3_1),.sl 4 (rowsOf encT65 m3_2),.sl 11 (rowsOf encT39 m3_3)]),(4,.box 26 [.p (.int .i64 m4),.p (.int .u32 m4_1),.sl 4 (rowsOf encT65 m4_2),.sl 11 (rowsOf encT39 m4_3)])]⟩ : St)) = some r.st := by
 unfold f6_aiirrzaiirrzi_j1 at hF
 obtain ⟨o1,h2,hF⟩ := bs hF
 have hc3 := f8_aiirrzn_ok k m3 m3_1 m3_2 m3_3 _ h2
 cases o1 with
 | o0 v4 =>
  (try dsimp only at hF)
  (try simp only [NM,EE,R8_aiirrzn.st] at hc3)
  simp (maxSteps:=999999) (disch:=first|exact D (by decide)|exact K (by kernel_rfl)) only [E,EE,↓reduceIte,simprocAttr,xk B6 [2,2] .sq rfl,xk B6 [1,2,2] .sq rfl,rg B6 [1,1,2,2] 3 false rfl,hr_6_3,t_26,callStep,CL,gv,List.contains,hc3]
  rcases cond_some hF with ⟨h5,hF⟩ | ⟨h5,hF⟩
  ·cases hF
   simp (maxSteps:=999999) (disch:=first|exact D (by decide)|exact K (by kernel_rfl)) only [E,EE,↓reduceIte,simprocAttr,xk B6 [2,1,2,2] (.cd 21) rfl,xk B6 [2,2,1,2,2] .sq rfl,rg B6 [1,2,2,1,2,2] 4 false rfl,hr_6_4,xk B6 [2,2,2,1,2,2] .rt rfl,finK_norm,finK_ret,fin6,R6_aiirrzaiirrzi.st,hc3,h5]
  ·obtain ⟨o6,h7,hF⟩ := bs hF
   have hc8 := f8_aiirrzn_ok k m4 m4_1 m4_2 m4_3 _ h7
   cases o6 with
   | o0 v9 =>
    (try dsimp only at hF)
    (try simp only [NM,EE,R8_aiirrzn.st] at hc8)
    simp (maxSteps:=999999) (disch:=first|exact D (by decide)|exact K (by kernel_rfl)) only [E,EE,↓reduceIte,simprocAttr,t_26,callStep,CL,gv,List.contains,xk B6 [2,1,2,2] (.cd 21) rfl,hc3,h5,hc8]
    rcases cond_some hF with ⟨h10,hF⟩ | ⟨h10,hF⟩
    ·cases hF
     simp (maxSteps:=999999) (disch:=first|exact D (by decide)|exact K (by kernel_rfl)) only [E,EE,↓reduceIte,simprocAttr,xk B6 [2,2,1,2,2] .sq rfl,rg B6 [1,2,2,1,2,2] 4 false rfl,hr_6_4,xk B6 [2,2,2,1,2,2] .rt rfl,finK_norm,finK_ret,fin6,R6_aiirrzaiirrzi.st,hc3,h5,hc8,h10]
    ·have hJ := f6_aiirrzaiirrzi_j2_ok k x2 false m3 m3_1 m3_2 m3_3 m4 m4_1 m4_2 m4_3 _ hF
     simp (maxSteps:=999999) (disch:=first|exact D (by decide)|exact K (by kernel_rfl)) only [E,EE,↓reduceIte,simprocAttr,xk B6 [3,2,1,2,2] .sk rfl,hc3,h5,hc8,h10]
     try simp only [NM,EE] at hJ
     exact hJ
noncomputable def f6_aiirrzaiirrzi_e (k:Nat) (a0 a0_1:Int) (a0_2:List T65) (a0_3:List T39) (a1 a1_1:Int) (a1_2:List T65) (a1_3:List T39) (a2:Int) : Option R6_aiirrzaiirrzi :=
 Option.bind (f7_ k) fun o1 =>
  match o1 with
  | .o0 v4 =>
   cond ((!v4))
    (some (R6_aiirrzaiirrzi.o0 false))
    (f6_aiirrzaiirrzi_j1 k a2 false a0 a0_1 a0_2 a0_3 a1 a1_1 a1_2 a1_3)
theorem f6_aiirrzaiirrzi_e_ok (k:Nat) (a0 a0_1:Int) (a0_2:List T65) (a0_3:List T39) (a1 a1_1:Int) (a1_2:List T65) (a1_3:List T39) (a2:Int) (r:R6_aiirrzaiirrzi) (hF:f6_aiirrzaiirrzi_e k a0 a0_1 a0_2 a0_3 a1 a1_1 a1_2 a1_3 a2 = some r) : finK Try.prog Try.f6 0 (EX 6 k (nav B6 []) (⟨114,[(0,.agg [.p (.int .i64 a0),.p (.int .u32 a0_1),.sl 4 (rowsOf encT65 a0_2),.sl 11 (rowsOf encT39 a0_3)]),(1,.agg [.p (.int .i64 a1),.p (.int .u32 a1_1),.sl 4 (rowsOf encT65 a1_2),.sl 11 (rowsOf encT39 a1_3)]),(2,.p (.int .i64 a2))],[]⟩ : St)) = some r.st := by
 unfold f6_aiirrzaiirrzi_e at hF
 obtain ⟨o1,h2,hF⟩ := bs hF
 have hc3 := f7__ok k _ h2
 cases o1 with
 | o0 v4 =>
  (try dsimp only at hF)
  (try simp only [NM,EE,R7_.st] at hc3)
  simp (maxSteps:=999999) (disch:=first|exact D (by decide)|exact K (by kernel_rfl)) only [E,EE,↓reduceIte,simprocAttr,xk B6 [] .sq rfl,rg B6 [1] 0 false rfl,hr_6_0,xk B6 [2] .sq rfl,xk B6 [1,2] .sq rfl,rg B6 [1,1,2] 1 false rfl,hr_6_1,callStep,CL,gv,List.contains,xk B6 [2,1,2] (.cd 15) rfl,hc3]
  rcases cond_some hF with ⟨h5,hF⟩ | ⟨h5,hF⟩
  ·cases hF
   simp (maxSteps:=999999) (disch:=first|exact D (by decide)|exact K (by kernel_rfl)) only [E,EE,↓reduceIte,simprocAttr,xk B6 [2,2,1,2] .sq rfl,rg B6 [1,2,2,1,2] 2 false rfl,hr_6_2,xk B6 [2,2,2,1,2] .rt rfl,finK_norm,finK_ret,fin6,R6_aiirrzaiirrzi.st,hc3,h5]
  ·have hJ := f6_aiirrzaiirrzi_j1_ok k a2 false a0 a0_1 a0_2 a0_3 a1 a1_1 a1_2 a1_3 _ hF
   simp (maxSteps:=999999) (disch:=first|exact D (by decide)|exact K (by kernel_rfl)) only [E,EE,↓reduceIte,simprocAttr,xk B6 [3,2,1,2] .sk rfl,hc3,h5]
   try simp only [NM,EE] at hJ
   exact hJ
noncomputable def f6_aiirrzaiirrzi (k:Nat) (a0 a0_1:Int) (a0_2:List T65) (a0_3:List T39) (a1 a1_1:Int) (a1_2:List T65) (a1_3:List T39) (a2:Int) : Option R6_aiirrzaiirrzi := match k with | 0 => none | k + 1 => f6_aiirrzaiirrzi_e k a0 a0_1 a0_2 a0_3 a1 a1_1 a1_2 a1_3 a2
theorem f6_aiirrzaiirrzi_ok (k:Nat) (a0 a0_1:Int) (a0_2:List T65) (a0_3:List T39) (a1 a1_1:Int) (a1_2:List T65) (a1_3:List T39) (a2:Int) (r:R6_aiirrzaiirrzi) (hF:f6_aiirrzaiirrzi k a0 a0_1 a0_2 a0_3 a1 a1_1 a1_2 a1_3 a2 = some r) : CV k 6 [.agg [.p (.int .i64 a0),.p (.int .u32 a0_1),.sl 4 (rowsOf encT65 a0_2),.sl 11 (rowsOf encT39 a0_3)],.agg [.p (.int .i64 a1),.p (.int .u32 a1_1),.sl 4 (rowsOf encT65 a1_2),.sl 11 (rowsOf encT39 a1_3)],.p (.int .i64 a2)] [] = some r.st := by
 cases k with
 | zero => cases hF
 | succ k =>
  unfold CV
  rw [ev_call (F := Try.f6) (c := (nav B6 [])) rfl Try.func6 rfl rfl rfl rfl]
  exact f6_aiirrzaiirrzi_e_ok k a0 a0_1 a0_2 a0_3 a1 a1_1 a1_2 a1_3 a2 r hF
end Go.Proofs.YticggdfaehneeaaV