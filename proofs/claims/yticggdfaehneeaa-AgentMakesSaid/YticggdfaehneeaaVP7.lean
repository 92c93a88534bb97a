/- What the program's functions answer: plain functions,and that the interpreter answers what they do. Written by a program of this session,out of the translation. -/
import Derived.Test.YticggdfaehneeaaVP6
namespace Go.Proofs.YticggdfaehneeaaV
open Go
set_option linter.unusedVariables false
set_option linter.unusedSimpArgs false
set_option maxRecDepth 8000
set_option maxHeartbeats 4000000
-- f62_ypp_lppbiiiiiiiiiirbowbrbi: f62 heliograph/pieces.parts$1
inductive R62_ypp_lppbiiiiiiiiiirbowbrbi where
 | o0 (y y_1 y_2 y_3 y_4 y_5 y_6 y_7 y_8 y_9 : Int) (y_10 : List Int) (y_11 : List T39) (y_12 : List Int) (y_13 : Int)
 | o1 (y y_1 y_2 y_3 y_4 y_5 y_6 y_7 y_8 y_9 : Int) (y_10 y_11 : List Int) (y_12 : Int) (y_13 : List T39)
noncomputable def R62_ypp_lppbiiiiiiiiiirbowbrbi.st : R62_ypp_lppbiiiiiiiiiirbowbrbi → V × List O × List O
 | .o0 y y_1 y_2 y_3 y_4 y_5 y_6 y_7 y_8 y_9 y_10 y_11 y_12 y_13 => (V.tup [],[O.lp 25 37 [(2,.ptr 1000001 0),(6,.ptr 1000002 0)] [21,22] (nav B25 [3,2,2,1,2,2,2]) (nav B25 [4,2,2,1,2,2,2]) 0 .norm,.box 39 [.p (.int .i64 y),.p (.int .i64 y_1),.p (.int .u32 y_2),.p (.int .i64 y_3),.p (.int .i64 y_4),.p (.int .i64 y_5),.p (.int .i64 y_6),.p (.int .i64 y_7),.p (.int .i64 y_8),.p (.int .i64 y_9),.sl 1 (rowsOf (encI .u8) y_10)],.box 24 [.own 1000003],.row true 11 39 (rowsOf encT39 y_11),.box 29 [.sl 1 (rowsOf (encI .u8) y_12)],.box 3 [.p (.int .i64 y_13)]],[])
 | .o1 y y_1 y_2 y_3 y_4 y_5 y_6 y_7 y_8 y_9 y_10 y_11 y_12 y_13 => (V.tup [],[O.lp 25 37 [(2,.ptr 1000001 0),(6,.ptr 1000002 0)] [21,22] (nav B25 [3,2,2,1,2,2,2]) (nav B25 [4,2,2,1,2,2,2]) 0 .norm,.box 39 [.p (.int .i64 y),.p (.int .i64 y_1),.p (.int .u32 y_2),.p (.int .i64 y_3),.p (.int .i64 y_4),.p (.int .i64 y_5),.p (.int .i64 y_6),.p (.int .i64 y_7),.p (.int .i64 y_8),.p (.int .i64 y_9),.sl 1 (rowsOf (encI .u8) y_10)],.box 24 [.own 2000000],.dead,.box 29 [.sl 1 (rowsOf (encI .u8) y_11)],.box 3 [.p (.int .i64 y_12)]],[.row true 11 39 (rowsOf encT39 y_13)])
inductive R62_ypp_lppbiiiiiiiiiirbowbrbi_l1 where
 | o0 (y y_1 y_2 y_3 y_4 y_5 y_6 y_7 y_8 y_9 y_10 : Int) (y_11 : List Int) (y_12 : List T39) (y_13 : List Int) (y_14 : Int)
 | o1 (y : Int) (y_1 : Bool) (y_2 y_3 y_4 y_5 y_6 y_7 y_8 y_9 y_10 y_11 : Int) (y_12 : List Int) (y_13 : List T39) (y_14 : List Int) (y_15 : Int)
 | o2 (y : Int) (y_1 : Bool) (y_2 y_3 y_4 y_5 y_6 y_7 y_8 y_9 y_10 y_11 : Int) (y_12 : List Int) (y_13 : List T39) (y_14 : List Int) (y_15 : Int)
noncomputable def R62_ypp_lppbiiiiiiiiiirbowbrbi_l1.st : R62_ypp_lppbiiiiiiiiiirbowbrbi_l1 → Out × St
 | .o0 y y_1 y_2 y_3 y_4 y_5 y_6 y_7 y_8 y_9 y_10 y_11 y_12 y_13 y_14 => (.norm,(⟨28,[(0,V.yld 1000000),(1,.ptr 1000004 0),(2,.ptr 1000005 0),(4,.p (.int .i64 y))],[(1000000,O.lp 25 37 [(2,.ptr 1000001 0),(6,.ptr 1000002 0)] [21,22] (nav B25 [3,2,2,1,2,2,2]) (nav B25 [4,2,2,1,2,2,2]) 0 .norm),(1000001,.box 39 [.p (.int .i64 y_1),.p (.int .i64 y_2),.p (.int .u32 y_3),.p (.int .i64 y_4),.p (.int .i64 y_5),.p (.int .i64 y_6),.p (.int .i64 y_7),.p (.int .i64 y_8),.p (.int .i64 y_9),.p (.int .i64 y_10),.sl 1 (rowsOf (encI .u8) y_11)]),(1000002,.box 24 [.own 25]),(25,.row true 11 39 (rowsOf encT39 y_12)),(1000004,.box 29 [.sl 1 (rowsOf (encI .u8) y_13)]),(1000005,.box 3 [.p (.int .i64 y_14)]),(1000003,.dead)]⟩ : St))
 | .o1 y y_1 y_2 y_3 y_4 y_5 y_6 y_7 y_8 y_9 y_10 y_11 y_12 y_13 y_14 y_15 => (.exit 0,(⟨28,[(0,V.yld 1000000),(1,.ptr 1000004 0),(2,.ptr 1000005 0),(4,.p (.int .i64 y)),(9,.p (.bool y_1))],[(1000000,O.lp 25 37 [(2,.ptr 1000001 0),(6,.ptr 1000002 0)] [21,22] (nav B25 [3,2,2,1,2,2,2]) (nav B25 [4,2,2,1,2,2,2]) 0 .norm),(1000001,.box 39 [.p (.int .i64 y_2),.p (.int .i64 y_3),.p (.int .u32 y_4),.p (.int .i64 y_5),.p (.int .i64 y_6),.p (.int .i64 y_7),.p (.int .i64 y_8),.p (.int .i64 y_9),.p (.int .i64 y_10),.p (.int .i64 y_11),.sl 1 (rowsOf (encI .u8) y_12)]),(1000002,.box 24 [.own 1000003]),(1000003,.row true 11 39 (rowsOf encT39 y_13)),(1000004,.box 29 [.sl 1 (rowsOf (encI .u8) y_14)]),(1000005,.box 3 [.p (.int .i64 y_15)])]⟩ : St))
 | .o2 y y_1 y_2 y_3 y_4 y_5 y_6 y_7 y_8 y_9 y_10 y_11 y_12 y_13 y_14 y_15 => (.exit 0,(⟨28,[(0,V.yld 1000000),(1,.ptr 1000004 0),(2,.ptr 1000005 0),(4,.p (.int .i64 y)),(9,.p (.bool y_1))],[(1000000,O.lp 25 37 [(2,.ptr 1000001 0),(6,.ptr 1000002 0)] [21,22] (nav B25 [3,2,2,1,2,2,2]) (nav B25 [4,2,2,1,2,2,2]) 0 .norm),(1000001,.box 39 [.p (.int .i64 y_2),.p (.int .i64 y_3),.p (.int .u32 y_4),.p (.int .i64 y_5),.p (.int .i64 y_6),.p (.int .i64 y_7),.p (.int .i64 y_8),.p (.int .i64 y_9),.p (.int .i64 y_10),.p (.int .i64 y_11),.sl 1 (rowsOf (encI .u8) y_12)]),(1000002,.box 24 [.own 30003]),(30003,.row true 11 39 (rowsOf encT39 y_13)),(1000004,.box 29 [.sl 1 (rowsOf (encI .u8) y_14)]),(1000005,.box 3 [.p (.int .i64 y_15)]),(1000003,.dead)]⟩ : St))
noncomputable def f62_ypp_lppbiiiiiiiiiirbowbrbi_l1_j2 (k : Nat) (x5 : Int) (x26 : Bool) (e1 e1_1 e1_2 e1_3 e1_4 e1_5 e1_6 e1_7 e1_8 e1_9 : Int) (e1_10 : List Int) (m25 : List T39) (e4 : List Int) (e5 : Int) : Option R62_ypp_lppbiiiiiiiiiirbowbrbi_l1 :=
 some (R62_ypp_lppbiiiiiiiiiirbowbrbi_l1.o0 x5 e1 e1_1 e1_2 e1_3 e1_4 e1_5 e1_6 e1_7 e1_8 e1_9 e1_10 m25 e4 e5)
theorem f62_ypp_lppbiiiiiiiiiirbowbrbi_l1_j2_ok (k : Nat) (x5 : Int) (x26 : Bool) (e1 e1_1 e1_2 e1_3 e1_4 e1_5 e1_6 e1_7 e1_8 e1_9 : Int) (e1_10 : List Int) (m25 : List T39) (e4 : List Int) (e5 : Int) (r : R62_ypp_lppbiiiiiiiiiirbowbrbi_l1) (hF : f62_ypp_lppbiiiiiiiiiirbowbrbi_l1_j2 k x5 x26 e1 e1_1 e1_2 e1_3 e1_4 e1_5 e1_6 e1_7 e1_8 e1_9 e1_10 m25 e4 e5 = some r) : blockK 1 (EX 62 k (nav B62 [2,2,2,2,1,2,2]) (⟨28,[(0,V.yld 1000000),(1,.ptr 1000004 0),(2,.ptr 1000005 0),(5,.p (.int .i64 x5)),(26,.p (.bool x26))],[(1000000,O.lp 25 37 [(2,.ptr 1000001 0),(6,.ptr 1000002 0)] [21,22] (nav B25 [3,2,2,1,2,2,2]) (nav B25 [4,2,2,1,2,2,2]) 0 .norm),(1000001,.box 39 [.p (.int .i64 e1),.p (.int .i64 e1_1),.p (.int .u32 e1_2),.p (.int .i64 e1_3),.p (.int .i64 e1_4),.p (.int .i64 e1_5),.p (.int .i64 e1_6),.p (.int .i64 e1_7),.p (.int .i64 e1_8),.p (.int .i64 e1_9),.sl 1 (rowsOf (encI .u8) e1_10)]),(1000002,.box 24 [.own 25]),(25,.row true 11 39 (rowsOf encT39 m25)),(1000004,.box 29 [.sl 1 (rowsOf (encI .u8) e4)]),(1000005,.box 3 [.p (.int .i64 e5)]),(1000003,.dead)]⟩ : St)) = some r.st := by
 unfold f62_ypp_lppbiiiiiiiiiirbowbrbi_l1_j2 at hF
 cases hF
 simp (maxSteps:=999999) (disch:=first|exact D (by decide)|exact K (by kernel_rfl)) only [E,EE,↓reduceIte,simprocAttr,rg B62 [2,2,2,2,1,2,2] 4 false rfl,hr_62_4,R62_ypp_lppbiiiiiiiiiirbowbrbi_l1.st]
noncomputable def f62_ypp_lppbiiiiiiiiiirbowbrbi_l1_j1 (k : Nat) (x4 : Int) (x9 : Bool) (e1 e1_1 e1_2 e1_3 e1_4 e1_5 e1_6 e1_7 e1_8 e1_9 : Int) (e1_10 : List Int) (e3 : List T39) (e4 : List Int) (e5 : Int) : Option R62_ypp_lppbiiiiiiiiiirbowbrbi_l1 :=
 ifE ((0 : Int) ≤ x4) (
  ifE ((0 : Int) ≤ (IntKind.i64.wrap ((if (IntKind.i64.wrap (((List.length e4) : Int) - x4)) < e5 then (IntKind.i64.wrap (((List.length e4) : Int) - x4)) else e5) + x4))) (
   ifE ((Int.toNat x4) ≤ (Int.toNat ((IntKind.i64.wrap ((if (IntKind.i64.wrap (((List.length e4) : Int) - x4)) < e5 then (IntKind.i64.wrap (((List.length e4) : Int) - x4)) else e5) + x4))))) (
    ifE ((Int.toNat ((IntKind.i64.wrap ((if (IntKind.i64.wrap (((List.length e4) : Int) - x4)) < e5 then (IntKind.i64.wrap (((List.length e4) : Int) - x4)) else e5) + x4)))) ≤ (List.length e4)) (
     Option.bind (f999999999_iry_lppbiiiiiiiiiirbow k x4 ((List.drop (Int.toNat x4) ((List.take ((Int.toNat ((IntKind.i64.wrap ((if (IntKind.i64.wrap (((List.length e4) : Int) - x4)) < e5 then (IntKind.i64.wrap (((List.length e4) : Int) - x4)) else e5) + x4))))) e4)))) e1 e1_1 e1_2 e1_3 e1_4 e1_5 e1_6 e1_7 e1_8 e1_9 e1_10 e3) fun o5 =>
      match o5 with
      | .o0 v8 v9 v10 v11 v12 v13 v14 v15 v16 v17 v18 v19 =>
       f62_ypp_lppbiiiiiiiiiirbowbrbi_l1_j2 k ((IntKind.i64.wrap ((if (IntKind.i64.wrap (((List.length e4) : Int) - x4)) < e5 then (IntKind.i64.wrap (((List.length e4) : Int) - x4)) else e5) + x4))) false v8 v9 v10 v11 v12 v13 v14 v15 v16 v17 v18 v19 e4 e5))))
theorem f62_ypp_lppbiiiiiiiiiirbowbrbi_l1_j1_ok (k : Nat) (x4 : Int) (x9 : Bool) (e1 e1_1 e1_2 e1_3 e1_4 e1_5 e1_6 e1_7 e1_8 e1_9 : Int) (e1_10 : List Int) (e3 : List T39) (e4 : List Int) (e5 : Int) (r : R62_ypp_lppbiiiiiiiiiirbowbrbi_l1) (hF : f62_ypp_lppbiiiiiiiiiirbowbrbi_l1_j1 k x4 x9 e1 e1_1 e1_2 e1_3 e1_4 e1_5 e1_6 e1_7 e1_8 e1_9 e1_10 e3 e4 e5 = some r) : EX 62 k (nav B62 [2,1,2,2]) (⟨28,[(0,V.yld 1000000),(1,.ptr 1000004 0),(2,.ptr 1000005 0),(4,.p (.int .i64 x4)),(9,.p (.bool x9))],[(1000000,O.lp 25 37 [(2,.ptr 1000001 0),(6,.ptr 1000002 0)] [21,22] (nav B25 [3,2,2,1,2,2,2]) (nav B25 [4,2,2,1,2,2,2]) 0 .norm),(1000001,.box 39 [.p (.int .i64 e1),.p (.int .i64 e1_1),.p (.int .u32 e1_2),.p (.int .i64 e1_3),.p (.int .i64 e1_4),.p (.int .i64 e1_5),.p (.int .i64 e1_6),.p (.int .i64 e1_7),.p (.int .i64 e1_8),.p (.int .i64 e1_9),.sl 1 (rowsOf (encI .u8) e1_10)]),(1000002,.box 24 [.own 1000003]),(1000003,.row true 11 39 (rowsOf encT39 e3)),(1000004,.box 29 [.sl 1 (rowsOf (encI .u8) e4)]),(1000005,.box 3 [.p (.int .i64 e5)])]⟩ : St) = some r.st := by
 unfold f62_ypp_lppbiiiiiiiiiirbowbrbi_l1_j1 at hF
 obtain ⟨h1,hF⟩ := ifE_some.1 hF
 obtain ⟨h2,hF⟩ := ifE_some.1 hF
 obtain ⟨h3,hF⟩ := ifE_some.1 hF
 obtain ⟨h4,hF⟩ := ifE_some.1 hF
 obtain ⟨o5,h6,hF⟩ := bs hF
 have hc7 := f999999999_iry_lppbiiiiiiiiiirbow_ok k x4 ((List.drop (Int.toNat x4) ((List.take ((Int.toNat ((IntKind.i64.wrap ((if (IntKind.i64.wrap (((List.length e4) : Int) - x4)) < e5 then (IntKind.i64.wrap (((List.length e4) : Int) - x4)) else e5) + x4))))) e4)))) e1 e1_1 e1_2 e1_3 e1_4 e1_5 e1_6 e1_7 e1_8 e1_9 e1_10 e3 _ h6
 cases o5 with
 | o0 v8 v9 v10 v11 v12 v13 v14 v15 v16 v17 v18 v19 =>
  (try dsimp only at hF)
  (try simp only [NM,EE,R999999999_iry_lppbiiiiiiiiiirbow.st] at hc7)
  have hJ := f62_ypp_lppbiiiiiiiiiirbowbrbi_l1_j2_ok k ((IntKind.i64.wrap ((if (IntKind.i64.wrap (((List.length e4) : Int) - x4)) < e5 then (IntKind.i64.wrap (((List.length e4) : Int) - x4)) else e5) + x4))) false v8 v9 v10 v11 v12 v13 v14 v15 v16 v17 v18 v19 e4 e5 _ hF
  simp (maxSteps:=999999) (disch:=first|exact D (by decide)|exact K (by kernel_rfl)) only [E,EE,↓reduceIte,simprocAttr,xk B62 [2,1,2,2] (.bk 1) rfl,xk B62 [2,2,1,2,2] .sq rfl,rg B62 [1,2,2,1,2,2] 2 false rfl,hr_62_2,t_3,t_29,minmaxV,minmaxGo,xk B62 [2,2,2,1,2,2] .sq rfl,xk B62 [1,2,2,2,1,2,2] .sq rfl,rg B62 [1,1,2,2,2,1,2,2] 3 false rfl,hr_62_3,sliceV,bound,t_5,callStep,CL,gv,List.contains,xk B62 [2,1,2,2,2,1,2,2] (.cd 26) rfl,xk B62 [3,2,1,2,2,2,1,2,2] .sk rfl,h1,h2,h3,h4,hc7]
  try simp only [NM,EE] at hJ
  exact hJ
noncomputable def f62_ypp_lppbiiiiiiiiiirbowbrbi_l1_b (k : Nat) (x4 e1 e1_1 e1_2 e1_3 e1_4 e1_5 e1_6 e1_7 e1_8 e1_9 : Int) (e1_10 : List Int) (e3 : List T39) (e4 : List Int) (e5 : Int) : Option R62_ypp_lppbiiiiiiiiiirbowbrbi_l1 :=
 cond ((decide (x4 < ((List.length e4) : Int))))
  (f62_ypp_lppbiiiiiiiiiirbowbrbi_l1_j1 k x4 true e1 e1_1 e1_2 e1_3 e1_4 e1_5 e1_6 e1_7 e1_8 e1_9 e1_10 e3 e4 e5)
  (some (R62_ypp_lppbiiiiiiiiiirbowbrbi_l1.o1 x4 false e1 e1_1 e1_2 e1_3 e1_4 e1_5 e1_6 e1_7 e1_8 e1_9 e1_10 e3 e4 e5))
theorem f62_ypp_lppbiiiiiiiiiirbowbrbi_l1_b_ok (k : Nat) (x4 e1 e1_1 e1_2 e1_3 e1_4 e1_5 e1_6 e1_7 e1_8 e1_9 : Int) (e1_10 : List Int) (e3 : List T39) (e4 : List Int) (e5 : Int) (r : R62_ypp_lppbiiiiiiiiiirbowbrbi_l1) (hF : f62_ypp_lppbiiiiiiiiiirbowbrbi_l1_b k x4 e1 e1_1 e1_2 e1_3 e1_4 e1_5 e1_6 e1_7 e1_8 e1_9 e1_10 e3 e4 e5 = some r) : EX 62 k (nav B62 [1,2,2]) (⟨28,[(0,V.yld 1000000),(1,.ptr 1000004 0),(2,.ptr 1000005 0),(4,.p (.int .i64 x4))],[(1000000,O.lp 25 37 [(2,.ptr 1000001 0),(6,.ptr 1000002 0)] [21,22] (nav B25 [3,2,2,1,2,2,2]) (nav B25 [4,2,2,1,2,2,2]) 0 .norm),(1000001,.box 39 [.p (.int .i64 e1),.p (.int .i64 e1_1),.p (.int .u32 e1_2),.p (.int .i64 e1_3),.p (.int .i64 e1_4),.p (.int .i64 e1_5),.p (.int .i64 e1_6),.p (.int .i64 e1_7),.p (.int .i64 e1_8),.p (.int .i64 e1_9),.sl 1 (rowsOf (encI .u8) e1_10)]),(1000002,.box 24 [.own 1000003]),(1000003,.row true 11 39 (rowsOf encT39 e3)),(1000004,.box 29 [.sl 1 (rowsOf (encI .u8) e4)]),(1000005,.box 3 [.p (.int .i64 e5)])]⟩ : St) = some r.st := by
 unfold f62_ypp_lppbiiiiiiiiiirbowbrbi_l1_b at hF
 simp (maxSteps:=999999) (disch:=first|exact D (by decide)|exact K (by kernel_rfl)) only [E,EE,↓reduceIte,simprocAttr,xk B62 [1,2,2] .sq rfl,xk B62 [1,1,2,2] .sq rfl,rg B62 [1,1,1,2,2] 1 false rfl,hr_62_1,t_29,xk B62 [2,1,1,2,2] (.cd 9) rfl]
 rcases cond_some hF with ⟨h1,hF⟩ | ⟨h1,hF⟩
 ·have hJ := f62_ypp_lppbiiiiiiiiiirbowbrbi_l1_j1_ok k x4 true e1 e1_1 e1_2 e1_3 e1_4 e1_5 e1_6 e1_7 e1_8 e1_9 e1_10 e3 e4 e5 _ hF
  simp (maxSteps:=999999) (disch:=first|exact D (by decide)|exact K (by kernel_rfl)) only [E,EE,↓reduceIte,simprocAttr,xk B62 [2,2,1,1,2,2] .sk rfl,h1]
  try simp only [NM,EE] at hJ
  exact hJ
 ·cases hF
  simp (maxSteps:=999999) (disch:=first|exact D (by decide)|exact K (by kernel_rfl)) only [E,EE,↓reduceIte,simprocAttr,xk B62 [3,2,1,1,2,2] (.ex 0) rfl,R62_ypp_lppbiiiiiiiiiirbowbrbi_l1.st,h1]
inductive R62_ypp_lppbiiiiiiiiiirbowbrbi_l2 where
 | o0 (y y_1 y_2 y_3 y_4 y_5 y_6 y_7 y_8 y_9 y_10 : Int) (y_11 : List Int) (y_12 : List T39) (y_13 : List Int) (y_14 : Int)
 | o1 (y : Int) (y_1 : Bool) (y_2 y_3 y_4 y_5 y_6 y_7 y_8 y_9 y_10 y_11 : Int) (y_12 : List Int) (y_13 : List T39) (y_14 : List Int) (y_15 : Int)
noncomputable def R62_ypp_lppbiiiiiiiiiirbowbrbi_l2.st : R62_ypp_lppbiiiiiiiiiirbowbrbi_l2 → Out × St
 | .o0 y y_1 y_2 y_3 y_4 y_5 y_6 y_7 y_8 y_9 y_10 y_11 y_12 y_13 y_14 => (.norm,(⟨28,[(0,V.yld 1000000),(1,.ptr 1000004 0),(2,.ptr 1000005 0),(4,.p (.int .i64 y))],[(1000000,O.lp 25 37 [(2,.ptr 1000001 0),(6,.ptr 1000002 0)] [21,22] (nav B25 [3,2,2,1,2,2,2]) (nav B25 [4,2,2,1,2,2,2]) 0 .norm),(1000001,.box 39 [.p (.int .i64 y_1),.p (.int .i64 y_2),.p (.int .u32 y_3),.p (.int .i64 y_4),.p (.int .i64 y_5),.p (.int .i64 y_6),.p (.int .i64 y_7),.p (.int .i64 y_8),.p (.int .i64 y_9),.p (.int .i64 y_10),.sl 1 (rowsOf (encI .u8) y_11)]),(1000002,.box 24 [.own 25]),(25,.row true 11 39 (rowsOf encT39 y_12)),(1000004,.box 29 [.sl 1 (rowsOf (encI .u8) y_13)]),(1000005,.box 3 [.p (.int .i64 y_14)]),(1000003,.dead)]⟩ : St))
 | .o1 y y_1 y_2 y_3 y_4 y_5 y_6 y_7 y_8 y_9 y_10 y_11 y_12 y_13 y_14 y_15 => (.exit 0,(⟨28,[(0,V.yld 1000000),(1,.ptr 1000004 0),(2,.ptr 1000005 0),(4,.p (.int .i64 y)),(9,.p (.bool y_1))],[(1000000,O.lp 25 37 [(2,.ptr 1000001 0),(6,.ptr 1000002 0)] [21,22] (nav B25 [3,2,2,1,2,2,2]) (nav B25 [4,2,2,1,2,2,2]) 0 .norm),(1000001,.box 39 [.p (.int .i64 y_2),.p (.int .i64 y_3),.p (.int .u32 y_4),.p (.int .i64 y_5),.p (.int .i64 y_6),.p (.int .i64 y_7),.p (.int .i64 y_8),.p (.int .i64 y_9),.p (.int .i64 y_10),.p (.int .i64 y_11),.sl 1 (rowsOf (encI .u8) y_12)]),(1000002,.box 24 [.own 30003]),(30003,.row true 11 39 (rowsOf encT39 y_13)),(1000004,.box 29 [.sl 1 (rowsOf (encI .u8) y_14)]),(1000005,.box 3 [.p (.int .i64 y_15)]),(1000003,.dead)]⟩ : St))
noncomputable def f62_ypp_lppbiiiiiiiiiirbowbrbi_l2_j2 (k : Nat) (x5 : Int) (x26 : Bool) (e1 e1_1 e1_2 e1_3 e1_4 e1_5 e1_6 e1_7 e1_8 e1_9 : Int) (e1_10 : List Int) (m25 : List T39) (e4 : List Int) (e5 : Int) : Option R62_ypp_lppbiiiiiiiiiirbowbrbi_l2 :=
 some (R62_ypp_lppbiiiiiiiiiirbowbrbi_l2.o0 x5 e1 e1_1 e1_2 e1_3 e1_4 e1_5 e1_6 e1_7 e1_8 e1_9 e1_10 m25 e4 e5)
theorem f62_ypp_lppbiiiiiiiiiirbowbrbi_l2_j2_ok (k : Nat) (x5 : Int) (x26 : Bool) (e1 e1_1 e1_2 e1_3 e1_4 e1_5 e1_6 e1_7 e1_8 e1_9 : Int) (e1_10 : List Int) (m25 : List T39) (e4 : List Int) (e5 : Int) (r : R62_ypp_lppbiiiiiiiiiirbowbrbi_l2) (hF : f62_ypp_lppbiiiiiiiiiirbowbrbi_l2_j2 k x5 x26 e1 e1_1 e1_2 e1_3 e1_4 e1_5 e1_6 e1_7 e1_8 e1_9 e1_10 m25 e4 e5 = some r) : blockK 1 (EX 62 k (nav B62 [2,2,2,2,1,2,2]) (⟨28,[(0,V.yld 1000000),(1,.ptr 1000004 0),(2,.ptr 1000005 0),(5,.p (.int .i64 x5)),(26,.p (.bool x26))],[(1000000,O.lp 25 37 [(2,.ptr 1000001 0),(6,.ptr 1000002 0)] [21,22] (nav B25 [3,2,2,1,2,2,2]) (nav B25 [4,2,2,1,2,2,2]) 0 .norm),(1000001,.box 39 [.p (.int .i64 e1),.p (.int .i64 e1_1),.p (.int .u32 e1_2),.p (.int .i64 e1_3),.p (.int .i64 e1_4),.p (.int .i64 e1_5),.p (.int .i64 e1_6),.p (.int .i64 e1_7),.p (.int .i64 e1_8),.p (.int .i64 e1_9),.sl 1 (rowsOf (encI .u8) e1_10)]),(1000002,.box 24 [.own 25]),(25,.row true 11 39 (rowsOf encT39 m25)),(1000004,.box 29 [.sl 1 (rowsOf (encI .u8) e4)]),(1000005,.box 3 [.p (.int .i64 e5)]),(1000003,.dead)]⟩ : St)) = some r.st := by
 unfold f62_ypp_lppbiiiiiiiiiirbowbrbi_l2_j2 at hF
 cases hF
 simp (maxSteps:=999999) (disch:=first|exact D (by decide)|exact K (by kernel_rfl)) only [E,EE,↓reduceIte,simprocAttr,rg B62 [2,2,2,2,1,2,2] 4 false rfl,hr_62_4,R62_ypp_lppbiiiiiiiiiirbowbrbi_l2.st]
noncomputable def f62_ypp_lppbiiiiiiiiiirbowbrbi_l2_j1 (k : Nat) (x4 : Int) (x9 : Bool) (e1 e1_1 e1_2 e1_3 e1_4 e1_5 e1_6 e1_7 e1_8 e1_9 : Int) (e1_10 : List Int) (h3_ : List T39) (e4 : List Int) (e5 : Int) : Option R62_ypp_lppbiiiiiiiiiirbowbrbi_l2 :=
 ifE ((0 : Int) ≤ x4) (
  ifE ((0 : Int) ≤ (IntKind.i64.wrap ((if (IntKind.i64.wrap (((List.length e4) : Int) - x4)) < e5 then (IntKind.i64.wrap (((List.length e4) : Int) - x4)) else e5) + x4))) (
   ifE ((Int.toNat x4) ≤ (Int.toNat ((IntKind.i64.wrap ((if (IntKind.i64.wrap (((List.length e4) : Int) - x4)) < e5 then (IntKind.i64.wrap (((List.length e4) : Int) - x4)) else e5) + x4))))) (
    ifE ((Int.toNat ((IntKind.i64.wrap ((if (IntKind.i64.wrap (((List.length e4) : Int) - x4)) < e5 then (IntKind.i64.wrap (((List.length e4) : Int) - x4)) else e5) + x4)))) ≤ (List.length e4)) (
     Option.bind (f999999999_iry_lppbiiiiiiiiiirbow k x4 ((List.drop (Int.toNat x4) ((List.take ((Int.toNat ((IntKind.i64.wrap ((if (IntKind.i64.wrap (((List.length e4) : Int) - x4)) < e5 then (IntKind.i64.wrap (((List.length e4) : Int) - x4)) else e5) + x4))))) e4)))) e1 e1_1 e1_2 e1_3 e1_4 e1_5 e1_6 e1_7 e1_8 e1_9 e1_10 h3_) fun o5 =>
      match o5 with
      | .o0 v8 v9 v10 v11 v12 v13 v14 v15 v16 v17 v18 v19 =>
       f62_ypp_lppbiiiiiiiiiirbowbrbi_l2_j2 k ((IntKind.i64.wrap ((if (IntKind.i64.wrap (((List.length e4) : Int) - x4)) < e5 then (IntKind.i64.wrap (((List.length e4) : Int) - x4)) else e5) + x4))) false v8 v9 v10 v11 v12 v13 v14 v15 v16 v17 v18 v19 e4 e5))))
theorem f62_ypp_lppbiiiiiiiiiirbowbrbi_l2_j1_ok (k : Nat) (x4 : Int) (x9 : Bool) (e1 e1_1 e1_2 e1_3 e1_4 e1_5 e1_6 e1_7 e1_8 e1_9 : Int) (e1_10 : List Int) (h3_ : List T39) (e4 : List Int) (e5 : Int) (r : R62_ypp_lppbiiiiiiiiiirbowbrbi_l2) (hF : f62_ypp_lppbiiiiiiiiiirbowbrbi_l2_j1 k x4 x9 e1 e1_1 e1_2 e1_3 e1_4 e1_5 e1_6 e1_7 e1_8 e1_9 e1_10 h3_ e4 e5 = some r) : EX 62 k (nav B62 [2,1,2,2]) (⟨28,[(0,V.yld 1000000),(1,.ptr 1000004 0),(2,.ptr 1000005 0),(4,.p (.int .i64 x4)),(9,.p (.bool x9))],[(1000000,O.lp 25 37 [(2,.ptr 1000001 0),(6,.ptr 1000002 0)] [21,22] (nav B25 [3,2,2,1,2,2,2]) (nav B25 [4,2,2,1,2,2,2]) 0 .norm),(1000001,.box 39 [.p (.int .i64 e1),.p (.int .i64 e1_1),.p (.int .u32 e1_2),.p (.int .i64 e1_3),.p (.int .i64 e1_4),.p (.int .i64 e1_5),.p (.int .i64 e1_6),.p (.int .i64 e1_7),.p (.int .i64 e1_8),.p (.int .i64 e1_9),.sl 1 (rowsOf (encI .u8) e1_10)]),(1000002,.box 24 [.own 30003]),(30003,.row true 11 39 (rowsOf encT39 h3_)),(1000004,.box 29 [.sl 1 (rowsOf (encI .u8) e4)]),(1000005,.box 3 [.p (.int .i64 e5)]),(1000003,.dead)]⟩ : St) = some r.st := by
 unfold f62_ypp_lppbiiiiiiiiiirbowbrbi_l2_j1 at hF
 obtain ⟨h1,hF⟩ := ifE_some.1 hF
 obtain ⟨h2,hF⟩ := ifE_some.1 hF
 obtain ⟨h3,hF⟩ := ifE_some.1 hF
 obtain ⟨h4,hF⟩ := ifE_some.1 hF
 obtain ⟨o5,h6,hF⟩ := bs hF
 have hc7 := f999999999_iry_lppbiiiiiiiiiirbow_ok k x4 ((List.drop (Int.toNat x4) ((List.take ((Int.toNat ((IntKind.i64.wrap ((if (IntKind.i64.wrap (((List.length e4) : Int) - x4)) < e5 then (IntKind.i64.wrap (((List.length e4) : Int) - x4)) else e5) + x4))))) e4)))) e1 e1_1 e1_2 e1_3 e1_4 e1_5 e1_6 e1_7 e1_8 e1_9 e1_10 h3_ _ h6
 cases o5 with
 | o0 v8 v9 v10 v11 v12 v13 v14 v15 v16 v17 v18 v19 =>
  (try dsimp only at hF)
  (try simp only [NM,EE,R999999999_iry_lppbiiiiiiiiiirbow.st] at hc7)
  have hJ := f62_ypp_lppbiiiiiiiiiirbowbrbi_l2_j2_ok k ((IntKind.i64.wrap ((if (IntKind.i64.wrap (((List.length e4) : Int) - x4)) < e5 then (IntKind.i64.wrap (((List.length e4) : Int) - x4)) else e5) + x4))) false v8 v9 v10 v11 v12 v13 v14 v15 v16 v17 v18 v19 e4 e5 _ hF
  simp (maxSteps:=999999) (disch:=first|exact D (by decide)|exact K (by kernel_rfl)) only [E,EE,↓reduceIte,simprocAttr,xk B62 [2,1,2,2] (.bk 1) rfl,xk B62 [2,2,1,2,2] .sq rfl,rg B62 [1,2,2,1,2,2] 2 false rfl,hr_62_2,t_3,t_29,minmaxV,minmaxGo,xk B62 [2,2,2,1,2,2] .sq rfl,xk B62 [1,2,2,2,1,2,2] .sq rfl,rg B62 [1,1,2,2,2,1,2,2] 3 false rfl,hr_62_3,sliceV,bound,t_5,callStep,CL,gv,List.contains,xk B62 [2,1,2,2,2,1,2,2] (.cd 26) rfl,xk B62 [3,2,1,2,2,2,1,2,2] .sk rfl,h1,h2,h3,h4,hc7]
  try simp only [NM,EE] at hJ
  exact hJ
noncomputable def f62_ypp_lppbiiiiiiiiiirbowbrbi_l2_b (k : Nat) (x4 e1 e1_1 e1_2 e1_3 e1_4 e1_5 e1_6 e1_7 e1_8 e1_9 : Int) (e1_10 : List Int) (h3_ : List T39) (e4 : List Int) (e5 : Int) : Option R62_ypp_lppbiiiiiiiiiirbowbrbi_l2 :=
 cond ((decide (x4 < ((List.length e4) : Int))))
  (f62_ypp_lppbiiiiiiiiiirbowbrbi_l2_j1 k x4 true e1 e1_1 e1_2 e1_3 e1_4 e1_5 e1_6 e1_7 e1_8 e1_9 e1_10 h3_ e4 e5)
  (some (R62_ypp_lppbiiiiiiiiiirbowbrbi_l2.o1 x4 false e1 e1_1 e1_2 e1_3 e1_4 e1_5 e1_6 e1_7 e1_8 e1_9 e1_10 h3_ e4 e5))
theorem f62_ypp_lppbiiiiiiiiiirbowbrbi_l2_b_ok (k : Nat) (x4 e1 e1_1 e1_2 e1_3 e1_4 e1_5 e1_6 e1_7 e1_8 e1_9 : Int) (e1_10 : List Int) (h3_ : List T39) (e4 : List Int) (e5 : Int) (r : R62_ypp_lppbiiiiiiiiiirbowbrbi_l2) (hF : f62_ypp_lppbiiiiiiiiiirbowbrbi_l2_b k x4 e1 e1_1 e1_2 e1_3 e1_4 e1_5 e1_6 e1_7 e1_8 e1_9 e1_10 h3_ e4 e5 = some r) : EX 62 k (nav B62 [1,2,2]) (⟨28,[(0,V.yld 1000000),(1,.ptr 1000004 0),(2,.ptr 1000005 0),(4,.p (.int .i64 x4))],[(1000000,O.lp 25 37 [(2,.ptr 1000001 0),(6,.ptr 1000002 0)] [21,22] (nav B25 [3,2,2,1,2,2,2]) (nav B25 [4,2,2,1,2,2,2]) 0 .norm),(1000001,.box 39 [.p (.int .i64 e1),.p (.int .i64 e1_1),.p (.int .u32 e1_2),.p (.int .i64 e1_3),.p (.int .i64 e1_4),.p (.int .i64 e1_5),.p (.int .i64 e1_6),.p (.int .i64 e1_7),.p (.int .i64 e1_8),.p (.int .i64 e1_9),.sl 1 (rowsOf (encI .u8) e1_10)]),(1000002,.box 24 [.own 30003]),(30003,.row true 11 39 (rowsOf encT39 h3_)),(1000004,.box 29 [.sl 1 (rowsOf (encI .u8) e4)]),(1000005,.box 3 [.p (.int .i64 e5)]),(1000003,.dead)]⟩ : St) = some r.st := by
 unfold f62_ypp_lppbiiiiiiiiiirbowbrbi_l2_b at hF
 simp (maxSteps:=999999) (disch:=first|exact D (by decide)|exact K (by kernel_rfl)) only [E,EE,↓reduceIte,simprocAttr,xk B62 [1,2,2] .sq rfl,xk B62 [1,1,2,2] .sq rfl,rg B62 [1,1,1,2,2] 1 false rfl,hr_62_1,t_29,xk B62 [2,1,1,2,2] (.cd 9) rfl]
 rcases cond_some hF with ⟨h1,hF⟩ | ⟨h1,hF⟩
 ·have hJ := f62_ypp_lppbiiiiiiiiiirbowbrbi_l2_j1_ok k x4 true e1 e1_1 e1_2 e1_3 e1_4 e1_5 e1_6 e1_7 e1_8 e1_9 e1_10 h3_ e4 e5 _ hF
  simp (maxSteps:=999999) (disch:=first|exact D (by decide)|exact K (by kernel_rfl)) only [E,EE,↓reduceIte,simprocAttr,xk B62 [2,2,1,1,2,2] .sk rfl,h1]
  try simp only [NM,EE] at hJ
  exact hJ
 ·cases hF
  simp (maxSteps:=999999) (disch:=first|exact D (by decide)|exact K (by kernel_rfl)) only [E,EE,↓reduceIte,simprocAttr,xk B62 [3,2,1,1,2,2] (.ex 0) rfl,R62_ypp_lppbiiiiiiiiiirbowbrbi_l2.st,h1]
noncomputable def f62_ypp_lppbiiiiiiiiiirbowbrbi_l2 (k : Nat) : Nat → Int → Int → Int → Int → Int → Int → Int → Int → Int → Int → Int → (List Int) → (List T39) → (List Int) → Int → Option R62_ypp_lppbiiiiiiiiiirbowbrbi_l2
 | 0,_,_,_,_,_,_,_,_,_,_,_,_,_,_,_ => none
 | n + 1,x4,e1,e1_1,e1_2,e1_3,e1_4,e1_5,e1_6,e1_7,e1_8,e1_9,e1_10,h3_,e4,e5 => Option.bind (f62_ypp_lppbiiiiiiiiiirbowbrbi_l2_b k x4 e1 e1_1 e1_2 e1_3 e1_4 e1_5 e1_6 e1_7 e1_8 e1_9 e1_10 h3_ e4 e5) fun o =>
  match o with
  | .o0 y y_1 y_2 y_3 y_4 y_5 y_6 y_7 y_8 y_9 y_10 y_11 y_12 y_13 y_14 => f62_ypp_lppbiiiiiiiiiirbowbrbi_l2 k n y y_1 y_2 y_3 y_4 y_5 y_6 y_7 y_8 y_9 y_10 y_11 y_12 y_13 y_14
  | .o1 y y_1 y_2 y_3 y_4 y_5 y_6 y_7 y_8 y_9 y_10 y_11 y_12 y_13 y_14 y_15 => some (.o1 y y_1 y_2 y_3 y_4 y_5 y_6 y_7 y_8 y_9 y_10 y_11 y_12 y_13 y_14 y_15)
theorem f62_ypp_lppbiiiiiiiiiirbowbrbi_l2_ok (k n : Nat) : ∀ (x4 e1 e1_1 e1_2 e1_3 e1_4 e1_5 e1_6 e1_7 e1_8 e1_9 : Int) (e1_10 : List Int) (h3_ : List T39) (e4 : List Int) (e5 : Int) (r : R62_ypp_lppbiiiiiiiiiirbowbrbi_l2) (hF : f62_ypp_lppbiiiiiiiiiirbowbrbi_l2 k n x4 e1 e1_1 e1_2 e1_3 e1_4 e1_5 e1_6 e1_7 e1_8 e1_9 e1_10 h3_ e4 e5 = some r) (σ : St) (hσ : headR (hints.head 62 1) (hints.canon 62 1) σ = some (⟨28,[(0,V.yld 1000000),(1,.ptr 1000004 0),(2,.ptr 1000005 0),(4,.p (.int .i64 x4))],[(1000000,O.lp 25 37 [(2,.ptr 1000001 0),(6,.ptr 1000002 0)] [21,22] (nav B25 [3,2,2,1,2,2,2]) (nav B25 [4,2,2,1,2,2,2]) 0 .norm),(1000001,.box 39 [.p (.int .i64 e1),.p (.int .i64 e1_1),.p (.int .u32 e1_2),.p (.int .i64 e1_3),.p (.int .i64 e1_4),.p (.int .i64 e1_5),.p (.int .i64 e1_6),.p (.int .i64 e1_7),.p (.int .i64 e1_8),.p (.int .i64 e1_9),.sl 1 (rowsOf (encI .u8) e1_10)]),(1000002,.box 24 [.own 30003]),(30003,.row true 11 39 (rowsOf encT39 h3_)),(1000004,.box 29 [.sl 1 (rowsOf (encI .u8) e4)]),(1000005,.box 3 [.p (.int .i64 e5)]),(1000003,.dead)]⟩ : St)),LP 62 k (nav B62 [1,2,2]) n σ = some r.st := by
 induction n with
 | zero => intro x4 e1 e1_1 e1_2 e1_3 e1_4 e1_5 e1_6 e1_7 e1_8 e1_9 e1_10 h3_ e4 e5 r hF; cases hF
 | succ n ih =>
  intro x4 e1 e1_1 e1_2 e1_3 e1_4 e1_5 e1_6 e1_7 e1_8 e1_9 e1_10 h3_ e4 e5 r hF σ hσ
  rw [f62_ypp_lppbiiiiiiiiiirbowbrbi_l2] at hF
  obtain ⟨o,h,hF⟩ := Option.bind_eq_some_iff.1 hF
  have hB := f62_ypp_lppbiiiiiiiiiirbowbrbi_l2_b_ok k x4 e1 e1_1 e1_2 e1_3 e1_4 e1_5 e1_6 e1_7 e1_8 e1_9 e1_10 h3_ e4 e5 o h
  unfold LP at ih ⊢
  unfold EX at hB
  rw [loopK_succ,show firstReg (nav B62 [1,2,2]) = 1 from rfl,hσ,headK_some,hB]
  cases o with
  | o0 y y_1 y_2 y_3 y_4 y_5 y_6 y_7 y_8 y_9 y_10 y_11 y_12 y_13 y_14 =>
   refine ih y y_1 y_2 y_3 y_4 y_5 y_6 y_7 y_8 y_9 y_10 y_11 y_12 y_13 y_14 r hF _ ?_
   simp (maxSteps:=999999) (disch:=first|exact D (by decide)|exact K (by kernel_rfl)) only [E,EE,↓reduceIte,simprocAttr,hh_62_1,hc_62_1]
  | o1 y y_1 y_2 y_3 y_4 y_5 y_6 y_7 y_8 y_9 y_10 y_11 y_12 y_13 y_14 y_15 => cases hF; rfl
noncomputable def f62_ypp_lppbiiiiiiiiiirbowbrbi_l1 (k : Nat) : Nat → Int → Int → Int → Int → Int → Int → Int → Int → Int → Int → Int → (List Int) → (List T39) → (List Int) → Int → Option R62_ypp_lppbiiiiiiiiiirbowbrbi_l1
 | 0,_,_,_,_,_,_,_,_,_,_,_,_,_,_,_ => none
 | n + 1,x4,e1,e1_1,e1_2,e1_3,e1_4,e1_5,e1_6,e1_7,e1_8,e1_9,e1_10,e3,e4,e5 => Option.bind (f62_ypp_lppbiiiiiiiiiirbowbrbi_l1_b k x4 e1 e1_1 e1_2 e1_3 e1_4 e1_5 e1_6 e1_7 e1_8 e1_9 e1_10 e3 e4 e5) fun o =>
  match o with
  | .o0 y y_1 y_2 y_3 y_4 y_5 y_6 y_7 y_8 y_9 y_10 y_11 y_12 y_13 y_14 => Option.bind (f62_ypp_lppbiiiiiiiiiirbowbrbi_l2 k n y y_1 y_2 y_3 y_4 y_5 y_6 y_7 y_8 y_9 y_10 y_11 y_12 y_13 y_14) fun o2 =>
   match o2 with
   | .o0 z0 z1 z2 z3 z4 z5 z6 z7 z8 z9 z10 z11 z12 z13 z14 => none
   | .o1 z0 z1 z2 z3 z4 z5 z6 z7 z8 z9 z10 z11 z12 z13 z14 z15 => some (.o2 z0 z1 z2 z3 z4 z5 z6 z7 z8 z9 z10 z11 z12 z13 z14 z15)
  | .o1 y y_1 y_2 y_3 y_4 y_5 y_6 y_7 y_8 y_9 y_10 y_11 y_12 y_13 y_14 y_15 => some (.o1 y y_1 y_2 y_3 y_4 y_5 y_6 y_7 y_8 y_9 y_10 y_11 y_12 y_13 y_14 y_15)
  | .o2 y y_1 y_2 y_3 y_4 y_5 y_6 y_7 y_8 y_9 y_10 y_11 y_12 y_13 y_14 y_15 => some (.o2 y y_1 y_2 y_3 y_4 y_5 y_6 y_7 y_8 y_9 y_10 y_11 y_12 y_13 y_14 y_15)
theorem f62_ypp_lppbiiiiiiiiiirbowbrbi_l1_ok (k n : Nat) : ∀ (x4 e1 e1_1 e1_2 e1_3 e1_4 e1_5 e1_6 e1_7 e1_8 e1_9 : Int) (e1_10 : List Int) (e3 : List T39) (e4 : List Int) (e5 : Int) (r : R62_ypp_lppbiiiiiiiiiirbowbrbi_l1) (hF : f62_ypp_lppbiiiiiiiiiirbowbrbi_l1 k n x4 e1 e1_1 e1_2 e1_3 e1_4 e1_5 e1_6 e1_7 e1_8 e1_9 e1_10 e3 e4 e5 = some r) (σ : St) (hσ : headR (hints.head 62 1) (hints.canon 62 1) σ = some (⟨28,[(0,V.yld 1000000),(1,.ptr 1000004 0),(2,.ptr 1000005 0),(4,.p (.int .i64 x4))],[(1000000,O.lp 25 37 [(2,.ptr 1000001 0),(6,.ptr 1000002 0)] [21,22] (nav B25 [3,2,2,1,2,2,2]) (nav B25 [4,2,2,1,2,2,2]) 0 .norm),(1000001,.box 39 [.p (.int .i64 e1),.p (.int .i64 e1_1),.p (.int .u32 e1_2),.p (.int .i64 e1_3),.p (.int .i64 e1_4),.p (.int .i64 e1_5),.p (.int .i64 e1_6),.p (.int .i64 e1_7),.p (.int .i64 e1_8),.p (.int .i64 e1_9),.sl 1 (rowsOf (encI .u8) e1_10)]),(1000002,.box 24 [.own 1000003]),(1000003,.row true 11 39 (rowsOf encT39 e3)),(1000004,.box 29 [.sl 1 (rowsOf (encI .u8) e4)]),(1000005,.box 3 [.p (.int .i64 e5)])]⟩ : St)),LP 62 k (nav B62 [1,2,2]) n σ = some r.st := by
 induction n with
 | zero => intro x4 e1 e1_1 e1_2 e1_3 e1_4 e1_5 e1_6 e1_7 e1_8 e1_9 e1_10 e3 e4 e5 r hF; cases hF
 | succ n ih =>
  intro x4 e1 e1_1 e1_2 e1_3 e1_4 e1_5 e1_6 e1_7 e1_8 e1_9 e1_10 e3 e4 e5 r hF σ hσ
  rw [f62_ypp_lppbiiiiiiiiiirbowbrbi_l1] at hF
  obtain ⟨o,h,hF⟩ := Option.bind_eq_some_iff.1 hF
  have hB := f62_ypp_lppbiiiiiiiiiirbowbrbi_l1_b_ok k x4 e1 e1_1 e1_2 e1_3 e1_4 e1_5 e1_6 e1_7 e1_8 e1_9 e1_10 e3 e4 e5 o h
  unfold LP at ih ⊢
  unfold EX at hB
  rw [loopK_succ,show firstReg (nav B62 [1,2,2]) = 1 from rfl,hσ,headK_some,hB]
  cases o with
  | o0 y y_1 y_2 y_3 y_4 y_5 y_6 y_7 y_8 y_9 y_10 y_11 y_12 y_13 y_14 =>
   obtain ⟨o2,h2,hF⟩ := bs hF
   refine Eq.trans (f62_ypp_lppbiiiiiiiiiirbowbrbi_l2_ok k n y y_1 y_2 y_3 y_4 y_5 y_6 y_7 y_8 y_9 y_10 y_11 y_12 y_13 y_14 o2 h2 _ ?_) ?_
   ·simp (maxSteps:=999999) (disch:=first|exact D (by decide)|exact K (by kernel_rfl)) only [E,EE,↓reduceIte,simprocAttr,hh_62_1,hc_62_1]
   ·cases o2 <;> first | (cases hF; rfl) | cases hF
  | o1 y y_1 y_2 y_3 y_4 y_5 y_6 y_7 y_8 y_9 y_10 y_11 y_12 y_13 y_14 y_15 => cases hF; rfl
  | o2 y y_1 y_2 y_3 y_4 y_5 y_6 y_7 y_8 y_9 y_10 y_11 y_12 y_13 y_14 y_15 => cases hF; rfl
noncomputable def f62_ypp_lppbiiiiiiiiiirbowbrbi_e (k : Nat) (e1 e1_1 e1_2 e1_3 e1_4 e1_5 e1_6 e1_7 e1_8 e1_9 : Int) (e1_10 : List Int) (e3 : List T39) (e4 : List Int) (e5 : Int) : Option R62_ypp_lppbiiiiiiiiiirbowbrbi :=
 Option.bind (f62_ypp_lppbiiiiiiiiiirbowbrbi_l1 k k 0 e1 e1_1 e1_2 e1_3 e1_4 e1_5 e1_6 e1_7 e1_8 e1_9 e1_10 e3 e4 e5) fun o1 =>
  match o1 with
  | .o0 _ _ _ _ _ _ _ _ _ _ _ _ _ _ _ =>
   none
  | .o1 v4 v5 v6 v7 v8 v9 v10 v11 v12 v13 v14 v15 v16 v17 v18 v19 =>
   some (R62_ypp_lppbiiiiiiiiiirbowbrbi.o0 v6 v7 v8 v9 v10 v11 v12 v13 v14 v15 v16 v17 v18 v19)
  | .o2 v20 v21 v22 v23 v24 v25 v26 v27 v28 v29 v30 v31 v32 v33 v34 v35 =>
   some (R62_ypp_lppbiiiiiiiiiirbowbrbi.o1 v22 v23 v24 v25 v26 v27 v28 v29 v30 v31 v32 v34 v35 v33)
theorem f62_ypp_lppbiiiiiiiiiirbowbrbi_e_ok (k : Nat) (e1 e1_1 e1_2 e1_3 e1_4 e1_5 e1_6 e1_7 e1_8 e1_9 : Int) (e1_10 : List Int) (e3 : List T39) (e4 : List Int) (e5 : Int) (r : R62_ypp_lppbiiiiiiiiiirbowbrbi) (hF : f62_ypp_lppbiiiiiiiiiirbowbrbi_e k e1 e1_1 e1_2 e1_3 e1_4 e1_5 e1_6 e1_7 e1_8 e1_9 e1_10 e3 e4 e5 = some r) : finK Try.prog Try.f62 6 (EX 62 k (nav B62 []) (⟨28,[(0,V.yld 1000000),(1,.ptr 1000004 0),(2,.ptr 1000005 0)],[(1000000,O.lp 25 37 [(2,.ptr 1000001 0),(6,.ptr 1000002 0)] [21,22] (nav B25 [3,2,2,1,2,2,2]) (nav B25 [4,2,2,1,2,2,2]) 0 .norm),(1000001,.box 39 [.p (.int .i64 e1),.p (.int .i64 e1_1),.p (.int .u32 e1_2),.p (.int .i64 e1_3),.p (.int .i64 e1_4),.p (.int .i64 e1_5),.p (.int .i64 e1_6),.p (.int .i64 e1_7),.p (.int .i64 e1_8),.p (.int .i64 e1_9),.sl 1 (rowsOf (encI .u8) e1_10)]),(1000002,.box 24 [.own 1000003]),(1000003,.row true 11 39 (rowsOf encT39 e3)),(1000004,.box 29 [.sl 1 (rowsOf (encI .u8) e4)]),(1000005,.box 3 [.p (.int .i64 e5)])]⟩ : St)) = some r.st := by
 unfold f62_ypp_lppbiiiiiiiiiirbowbrbi_e at hF
 obtain ⟨o1,h2,hF⟩ := bs hF
 have hc3 := f62_ypp_lppbiiiiiiiiiirbowbrbi_l1_ok k k 0 e1 e1_1 e1_2 e1_3 e1_4 e1_5 e1_6 e1_7 e1_8 e1_9 e1_10 e3 e4 e5 _ h2
 simp (maxSteps:=999999) (disch:=first|exact D (by decide)|exact K (by kernel_rfl)) only [E,EE,↓reduceIte,simprocAttr,xk B62 [] .sq rfl,rg B62 [1] 0 false rfl,hr_62_0,xk B62 [2] (.bk 0) rfl,xk B62 [2,2] .lp rfl,hh_62_1,hc_62_1]
 (try simp only [NM,EE] at hc3)
 rw [hc3 _ (by simp (maxSteps:=999999) (disch:=first|exact D (by decide)|exact K (by kernel_rfl)) only [E,EE,↓reduceIte,simprocAttr,hh_62_1,hc_62_1])]
 clear hc3
 cases o1 with
 | o0 _ _ _ _ _ _ _ _ _ _ _ _ _ _ _ =>
  (try dsimp only at hF)
  cases hF
 | o1 v4 v5 v6 v7 v8 v9 v10 v11 v12 v13 v14 v15 v16 v17 v18 v19 =>
  (try dsimp only at hF)
  cases hF
  simp (maxSteps:=999999) (disch:=first|exact D (by decide)|exact K (by kernel_rfl)) only [E,EE,↓reduceIte,simprocAttr,R62_ypp_lppbiiiiiiiiiirbowbrbi_l1.st,finK_norm,finK_ret,fin62,R62_ypp_lppbiiiiiiiiiirbowbrbi.st]
 | o2 v20 v21 v22 v23 v24 v25 v26 v27 v28 v29 v30 v31 v32 v33 v34 v35 =>
  (try dsimp only at hF)
  cases hF
  simp (maxSteps:=999999) (disch:=first|exact D (by decide)|exact K (by kernel_rfl)) only [E,EE,↓reduceIte,simprocAttr,R62_ypp_lppbiiiiiiiiiirbowbrbi_l1.st,finK_norm,finK_ret,fin62,R62_ypp_lppbiiiiiiiiiirbowbrbi.st]
noncomputable def f62_ypp_lppbiiiiiiiiiirbowbrbi (k : Nat) (e1 e1_1 e1_2 e1_3 e1_4 e1_5 e1_6 e1_7 e1_8 e1_9 : Int) (e1_10 : List Int) (e3 : List T39) (e4 : List Int) (e5 : Int) : Option R62_ypp_lppbiiiiiiiiiirbowbrbi := match k with | 0 => none | k + 1 => f62_ypp_lppbiiiiiiiiiirbowbrbi_e k e1 e1_1 e1_2 e1_3 e1_4 e1_5 e1_6 e1_7 e1_8 e1_9 e1_10 e3 e4 e5
theorem f62_ypp_lppbiiiiiiiiiirbowbrbi_ok (k : Nat) (e1 e1_1 e1_2 e1_3 e1_4 e1_5 e1_6 e1_7 e1_8 e1_9 : Int) (e1_10 : List Int) (e3 : List T39) (e4 : List Int) (e5 : Int) (r : R62_ypp_lppbiiiiiiiiiirbowbrbi) (hF : f62_ypp_lppbiiiiiiiiiirbowbrbi k e1 e1_1 e1_2 e1_3 e1_4 e1_5 e1_6 e1_7 e1_8 e1_9 e1_10 e3 e4 e5 = some r) : CV k 62 [V.yld 1000000,.ptr 1000004 0,.ptr 1000005 0] [O.lp 25 37 [(2,.ptr 1000001 0),(6,.ptr 1000002 0)] [21,22] (nav B25 [3,2,2,1,2,2,2]) (nav B25 [4,2,2,1,2,2,2]) 0 .norm,.box 39 [.p (.int .i64 e1),.p (.int .i64 e1_1),.p (.int .u32 e1_2),.p (.int .i64 e1_3),.p (.int .i64 e1_4),.p (.int .i64 e1_5),.p (.int .i64 e1_6),.p (.int .i64 e1_7),.p (.int .i64 e1_8),.p (.int .i64 e1_9),.sl 1 (rowsOf (encI .u8) e1_10)],.box 24 [.own 1000003],.row true 11 39 (rowsOf encT39 e3),.box 29 [.sl 1 (rowsOf (encI .u8) e4)],.box 3 [.p (.int .i64 e5)]] = some r.st := by
 cases k with
 | zero => cases hF
 | succ k =>
  unfold CV
  rw [ev_call (F := Try.f62) (c := (nav B62 [])) rfl Try.func62 rfl rfl rfl rfl]
  exact f62_ypp_lppbiiiiiiiiiirbowbrbi_e_ok k e1 e1_1 e1_2 e1_3 e1_4 e1_5 e1_6 e1_7 e1_8 e1_9 e1_10 e3 e4 e5 r hF
-- f25_ai10rzi: f25 heliograph/pieces.Cut
inductive R25_ai10rzi where
 | o0 (y : Int) (y_1 : List T39)
noncomputable def R25_ai10rzi.st : R25_ai10rzi → V × List O × List O
 | .o0 y y_1 => (V.tup [.own 2000000,.p (.int .i64 y)],[],[.row true 11 39 (rowsOf encT39 y_1)])
noncomputable def f25_ai10rzi_j2 (k : Nat) (s320 : List T39) : Option R25_ai10rzi :=
 some (R25_ai10rzi.o0 0 s320)
theorem f25_ai10rzi_j2_ok (k : Nat) (s320 : List T39) (r : R25_ai10rzi) (hF : f25_ai10rzi_j2 k s320 = some r) : finK Try.prog Try.f25 0 (EX 25 k (nav B25 [2,2,2,2]) (⟨37,[(6,.ptr 6 0)],[(6,.box 24 [.own 700320]),(700320,.row true 11 39 (rowsOf encT39 s320))]⟩ : St)) = some r.st := by
 unfold f25_ai10rzi_j2 at hF
 cases hF
 simp (maxSteps:=999999) (disch:=first|exact D (by decide)|exact K (by kernel_rfl)) only [E,EE,↓reduceIte,simprocAttr,xk B25 [2,2,2,2] .sq rfl,rg B25 [1,2,2,2,2] 13 false rfl,hr_25_13,t_24,xk B25 [2,2,2,2,2] .rt rfl,finK_norm,finK_ret,fin25,R25_ai10rzi.st]
noncomputable def f25_ai10rzi_j3 (k : Nat) (m9_50_ : List T39) : Option R25_ai10rzi :=
 some (R25_ai10rzi.o0 0 m9_50_)
theorem f25_ai10rzi_j3_ok (k : Nat) (m9_50_ : List T39) (r : R25_ai10rzi) (hF : f25_ai10rzi_j3 k m9_50_ = some r) : finK Try.prog Try.f25 0 (EX 25 k (nav B25 [2,2,2,2]) (⟨37,[(6,.ptr 6 0)],[(6,.box 24 [.own 500009]),(500009,.row true 11 39 (rowsOf encT39 m9_50_))]⟩ : St)) = some r.st := by
 unfold f25_ai10rzi_j3 at hF
 cases hF
 simp (maxSteps:=999999) (disch:=first|exact D (by decide)|exact K (by kernel_rfl)) only [E,EE,↓reduceIte,simprocAttr,xk B25 [2,2,2,2] .sq rfl,rg B25 [1,2,2,2,2] 13 false rfl,hr_25_13,t_24,xk B25 [2,2,2,2,2] .rt rfl,finK_norm,finK_ret,fin25,R25_ai10rzi.st]
noncomputable def f25_ai10rzi_j1 (k : Nat) (x1 : Int) (x14 : Bool) (m2 m2_1 m2_2 m2_3 m2_4 m2_5 m2_6 m2_7 m2_8 m2_9 : Int) (m2_10 : List Int) : Option R25_ai10rzi :=
 Option.bind (f46_ri k m2_10 x1) fun o1 =>
  match o1 with
  | .o0 v4 v5 =>
   Option.bind (f62_ypp_lppbiiiiiiiiiirbowbrbi k m2 m2_1 m2_2 m2_3 m2_4 m2_5 m2_6 m2_7 m2_8 m2_9 m2_10 [] v4 v5) fun o6 =>
    match o6 with
    | .o0 v9 v10 v11 v12 v13 v14 v15 v16 v17 v18 v19 v20 v21 v22 =>
     f25_ai10rzi_j2 k v20
    | .o1 v23 v24 v25 v26 v27 v28 v29 v30 v31 v32 v33 v34 v35 v36 =>
     f25_ai10rzi_j3 k v36
theorem f25_ai10rzi_j1_ok (k : Nat) (x1 : Int) (x14 : Bool) (m2 m2_1 m2_2 m2_3 m2_4 m2_5 m2_6 m2_7 m2_8 m2_9 : Int) (m2_10 : List Int) (r : R25_ai10rzi) (hF : f25_ai10rzi_j1 k x1 x14 m2 m2_1 m2_2 m2_3 m2_4 m2_5 m2_6 m2_7 m2_8 m2_9 m2_10 = some r) : finK Try.prog Try.f25 0 (EX 25 k (nav B25 [2,2]) (⟨37,[(1,.p (.int .i64 x1)),(2,.ptr 2 0),(14,.p (.bool x14))],[(2,.box 39 [.p (.int .i64 m2),.p (.int .i64 m2_1),.p (.int .u32 m2_2),.p (.int .i64 m2_3),.p (.int .i64 m2_4),.p (.int .i64 m2_5),.p (.int .i64 m2_6),.p (.int .i64 m2_7),.p (.int .i64 m2_8),.p (.int .i64 m2_9),.sl 1 (rowsOf (encI .u8) m2_10)])]⟩ : St)) = some r.st := by
 unfold f25_ai10rzi_j1 at hF
 obtain ⟨o1,h2,hF⟩ := bs hF
 have hc3 := f46_ri_ok k m2_10 x1 _ h2
 cases o1 with
 | o0 v4 v5 =>
  (try dsimp only at hF)
  (try simp only [NM,EE,R46_ri.st] at hc3)
  simp (maxSteps:=999999) (disch:=first|exact D (by decide)|exact K (by kernel_rfl)) only [E,EE,↓reduceIte,simprocAttr,xk B25 [2,2] .sq rfl,rg B25 [1,2,2] 5 false rfl,hr_25_5,t_24,xk B25 [2,2,2] .sq rfl,xk B25 [1,2,2,2] .sq rfl,rg B25 [1,1,2,2,2] 6 false rfl,hr_25_6,fieldAddrV,t_39,t_29,callStep,CL,gv,List.contains,xk B25 [2,1,2,2,2] (.bk 1) rfl,xk B25 [2,2,1,2,2,2] (.rf (.tmp 20) [21,22] 9) rfl,hh_25_1000009,hk_25_1000009,hc3]
  obtain ⟨o6,h7,hF⟩ := bs hF
  have hc8 := f62_ypp_lppbiiiiiiiiiirbowbrbi_ok k m2 m2_1 m2_2 m2_3 m2_4 m2_5 m2_6 m2_7 m2_8 m2_9 m2_10 [] v4 v5 _ h7
  cases o6 with
  | o0 v9 v10 v11 v12 v13 v14 v15 v16 v17 v18 v19 v20 v21 v22 =>
   (try dsimp only at hF)
   (try simp only [NM,EE,R62_ypp_lppbiiiiiiiiiirbowbrbi.st] at hc8)
   have hJ := f25_ai10rzi_j2_ok k v20 _ hF
   simp (maxSteps:=999999) (disch:=first|exact D (by decide)|exact K (by kernel_rfl)) only [E,EE,↓reduceIte,simprocAttr,hc3,hc8]
   try simp only [NM,EE] at hJ
   exact hJ
  | o1 v23 v24 v25 v26 v27 v28 v29 v30 v31 v32 v33 v34 v35 v36 =>
   (try dsimp only at hF)
   (try simp only [NM,EE,R62_ypp_lppbiiiiiiiiiirbowbrbi.st] at hc8)
   have hJ := f25_ai10rzi_j3_ok k v36 _ hF
   simp (maxSteps:=999999) (disch:=first|exact D (by decide)|exact K (by kernel_rfl)) only [E,EE,↓reduceIte,simprocAttr,hc3,hc8]
   try simp only [NM,EE] at hJ
   exact hJ
noncomputable def f25_ai10rzi_e (k : Nat) (a0 a0_1 a0_2 a0_3 a0_4 a0_5 a0_6 a0_7 a0_8 a0_9 : Int) (a0_10 : List Int) (a1 : Int) : Option R25_ai10rzi :=
 Option.bind (f24_ai10rz k a0 a0_1 a0_2 a0_3 a0_4 a0_5 a0_6 a0_7 a0_8 a0_9 a0_10) fun o1 =>
  match o1 with
  | .o0 v4 =>
   cond ((v4 != 0))
    (some (R25_ai10rzi.o0 190 []))
    (
     cond ((decide (a1 < 1)))
      (some (R25_ai10rzi.o0 2 []))
      (f25_ai10rzi_j1 k a1 false a0 a0_1 a0_2 a0_3 a0_4 a0_5 a0_6 a0_7 a0_8 a0_9 a0_10))
theorem f25_ai10rzi_e_ok (k : Nat) (a0 a0_1 a0_2 a0_3 a0_4 a0_5 a0_6 a0_7 a0_8 a0_9 : Int) (a0_10 : List Int) (a1 : Int) (r : R25_ai10rzi) (hF : f25_ai10rzi_e k a0 a0_1 a0_2 a0_3 a0_4 a0_5 a0_6 a0_7 a0_8 a0_9 a0_10 a1 = some r) : finK Try.prog Try.f25 0 (EX 25 k (nav B25 []) (⟨37,[(0,.agg [.p (.int .i64 a0),.p (.int .i64 a0_1),.p (.int .u32 a0_2),.p (.int .i64 a0_3),.p (.int .i64 a0_4),.p (.int .i64 a0_5),.p (.int .i64 a0_6),.p (.int .i64 a0_7),.p (.int .i64 a0_8),.p (.int .i64 a0_9),.sl 1 (rowsOf (encI .u8) a0_10)]),(1,.p (.int .i64 a1))],[]⟩ : St)) = some r.st := by
 unfold f25_ai10rzi_e at hF
 obtain ⟨o1,h2,hF⟩ := bs hF
 have hc3 := f24_ai10rz_ok k a0 a0_1 a0_2 a0_3 a0_4 a0_5 a0_6 a0_7 a0_8 a0_9 a0_10 _ h2
 cases o1 with
 | o0 v4 =>
  (try dsimp only at hF)
  (try simp only [NM,EE,R24_ai10rz.st] at hc3)
  simp (maxSteps:=999999) (disch:=first|exact D (by decide)|exact K (by kernel_rfl)) only [E,EE,↓reduceIte,simprocAttr,xk B25 [] .sq rfl,rg B25 [1] 0 false rfl,hr_25_0,xk B25 [2] .sq rfl,xk B25 [1,2] (.bk 0) rfl,xk B25 [2,1,2] .sq rfl,rg B25 [1,2,1,2] 1 false rfl,hr_25_1,t_39,callStep,CL,gv,List.contains,xk B25 [2,2,1,2] (.cd 10) rfl,hc3]
  rcases cond_some hF with ⟨h5,hF⟩ | ⟨h5,hF⟩
  ·cases hF
   simp (maxSteps:=999999) (disch:=first|exact D (by decide)|exact K (by kernel_rfl)) only [E,EE,↓reduceIte,simprocAttr,xk B25 [2,2,2,1,2] .sq rfl,rg B25 [1,2,2,2,1,2] 2 false rfl,hr_25_2,xk B25 [2,2,2,2,1,2] .rt rfl,finK_norm,finK_ret,fin25,R25_ai10rzi.st,hc3,h5]
  ·simp (maxSteps:=999999) (disch:=first|exact D (by decide)|exact K (by kernel_rfl)) only [E,EE,↓reduceIte,simprocAttr,xk B25 [3,2,2,1,2] .sq rfl,rg B25 [1,3,2,2,1,2] 3 false rfl,hr_25_3,xk B25 [2,3,2,2,1,2] (.cd 14) rfl,hc3,h5]
   rcases cond_some hF with ⟨h6,hF⟩ | ⟨h6,hF⟩
   ·cases hF
    simp (maxSteps:=999999) (disch:=first|exact D (by decide)|exact K (by kernel_rfl)) only [E,EE,↓reduceIte,simprocAttr,xk B25 [2,2,3,2,2,1,2] .sq rfl,rg B25 [1,2,2,3,2,2,1,2] 4 false rfl,hr_25_4,xk B25 [2,2,2,3,2,2,1,2] .rt rfl,finK_norm,finK_ret,fin25,R25_ai10rzi.st,hc3,h5,h6]
   ·have hJ := f25_ai10rzi_j1_ok k a1 false a0 a0_1 a0_2 a0_3 a0_4 a0_5 a0_6 a0_7 a0_8 a0_9 a0_10 _ hF
    simp (maxSteps:=999999) (disch:=first|exact D (by decide)|exact K (by kernel_rfl)) only [E,EE,↓reduceIte,simprocAttr,xk B25 [3,2,3,2,2,1,2] .sk rfl,hc3,h5,h6]
    try simp only [NM,EE] at hJ
    exact hJ
noncomputable def f25_ai10rzi (k : Nat) (a0 a0_1 a0_2 a0_3 a0_4 a0_5 a0_6 a0_7 a0_8 a0_9 : Int) (a0_10 : List Int) (a1 : Int) : Option R25_ai10rzi := match k with | 0 => none | k + 1 => f25_ai10rzi_e k a0 a0_1 a0_2 a0_3 a0_4 a0_5 a0_6 a0_7 a0_8 a0_9 a0_10 a1
theorem f25_ai10rzi_ok (k : Nat) (a0 a0_1 a0_2 a0_3 a0_4 a0_5 a0_6 a0_7 a0_8 a0_9 : Int) (a0_10 : List Int) (a1 : Int) (r : R25_ai10rzi) (hF : f25_ai10rzi k a0 a0_1 a0_2 a0_3 a0_4 a0_5 a0_6 a0_7 a0_8 a0_9 a0_10 a1 = some r) : CV k 25 [.agg [.p (.int .i64 a0),.p (.int .i64 a0_1),.p (.int .u32 a0_2),.p (.int .i64 a0_3),.p (.int .i64 a0_4),.p (.int .i64 a0_5),.p (.int .i64 a0_6),.p (.int .i64 a0_7),.p (.int .i64 a0_8),.p (.int .i64 a0_9),.sl 1 (rowsOf (encI .u8) a0_10)],.p (.int .i64 a1)] [] = some r.st := by
 cases k with
 | zero => cases hF
 | succ k =>
  unfold CV
  rw [ev_call (F := Try.f25) (c := (nav B25 [])) rfl Try.func25 rfl rfl rfl rfl]
  exact f25_ai10rzi_e_ok k a0 a0_1 a0_2 a0_3 a0_4 a0_5 a0_6 a0_7 a0_8 a0_9 a0_10 a1 r hF
-- f48_r: f48 slices.Clone[[]heliograph/api.Seen,heliograph/api.Seen]
inductive R48_r where
 | o0 (y : List T65)
noncomputable def R48_r.st : R48_r → V × List O × List O
 | .o0 y => (.own 2000000,[],[.row true 4 65 (rowsOf encT65 y)])
noncomputable def f48_r (k : Nat) (a0 : List T65) : Option R48_r := match k with | 0 => none | _ + 1 => ifE (a0.length * 32 ≤ roomy) (some (.o0 a0))
theorem f48_r_ok (k : Nat) (a0 : List T65) (r : R48_r) (hF : f48_r k a0 = some r) : CV k 48 [.sl 4 (rowsOf encT65 a0)] [] = some r.st := by
 cases k with
 | zero => cases hF
 | succ k =>
  obtain ⟨h,hF⟩ := ifE_some.1 hF
  cases hF
  have h' : ((rowsOf encT65 a0)).length * 32 ≤ roomy := by rw [rowsOf_length]; exact h
  unfold CV
  rw [ev_ctx (show ctx 48 = some (cloneS 4 65 32) from rfl) rfl]
  simp only [cloneS,h',and_self,if_true]; rfl
-- f49_r: f49 slices.Clone[[]byte,byte]
inductive R49_r where
 | o0 (y : List Int)
noncomputable def R49_r.st : R49_r → V × List O × List O
 | .o0 y => (.own 2000000,[],[.row true 1 5 (rowsOf (encI .u8) y)])
noncomputable def f49_r (k : Nat) (a0 : List Int) : Option R49_r := match k with | 0 => none | _ + 1 => ifE (a0.length * 1 ≤ roomy) (some (.o0 a0))
theorem f49_r_ok (k : Nat) (a0 : List Int) (r : R49_r) (hF : f49_r k a0 = some r) : CV k 49 [.sl 1 (rowsOf (encI .u8) a0)] [] = some r.st := by
 cases k with
 | zero => cases hF
 | succ k =>
  obtain ⟨h,hF⟩ := ifE_some.1 hF
  cases hF
  have h' : ((rowsOf (encI .u8) a0)).length * 1 ≤ roomy := by rw [rowsOf_length]; exact h
  unfold CV
  rw [ev_ctx (show ctx 49 = some (cloneS 1 5 1) from rfl) rfl]
  simp only [cloneS,h',and_self,if_true]; rfl
-- f26_aiirrz: f26 heliograph/agent.own
inductive R26_aiirrz where
 | o0 (y y_1 : Int) (y_2 : List T65) (y_3 : List T39)
noncomputable def R26_aiirrz.st : R26_aiirrz → V × List O × List O
 | .o0 y y_1 y_2 y_3 => (.agg [.p (.int .i64 y),.p (.int .u32 y_1),.own 2000000,.own 2000001],[],[.row true 4 65 (rowsOf encT65 y_2),.row true 11 39 (rowsOf encT39 y_3)])
inductive R26_aiirrz_l1 where
 | o0 (y : List T39) (y_1 y_2 y_3 y_4 : Int) (y_5 : List T65) (y_6 : List T39) (y_7 y_8 : Int) (y_9 : List T65) (y_10 : List T39)
 | o1 (y : List T39) (y_1 y_2 : Int) (y_3 : Bool) (y_4 y_5 : Int) (y_6 : List T65) (y_7 : List T39) (y_8 y_9 : Int) (y_10 : List T65) (y_11 : List T39)
noncomputable def R26_aiirrz_l1.st : R26_aiirrz_l1 → Out × St
 | .o0 y y_1 y_2 y_3 y_4 y_5 y_6 y_7 y_8 y_9 y_10 => (.norm,(⟨31,[(1,.ptr 30000 0),(2,.ptr 30003 0),(13,.sl 11 (rowsOf encT39 y)),(14,.p (.int .i64 y_1)),(15,.p (.int .i64 y_2))],[(30000,.box 26 [.p (.int .i64 y_3),.p (.int .u32 y_4),.own 30001,.own 27]),(30001,.row true 4 65 (rowsOf encT65 y_5)),(27,.row true 11 39 (rowsOf encT39 y_6)),(30003,.box 26 [.p (.int .i64 y_7),.p (.int .u32 y_8),.own 30004,.own 30005]),(30004,.row true 4 65 (rowsOf encT65 y_9)),(30005,.row true 11 39 (rowsOf encT39 y_10))]⟩ : St))
 | .o1 y y_1 y_2 y_3 y_4 y_5 y_6 y_7 y_8 y_9 y_10 y_11 => (.exit 0,(⟨31,[(1,.ptr 30000 0),(2,.ptr 30003 0),(13,.sl 11 (rowsOf encT39 y)),(14,.p (.int .i64 y_1)),(15,.p (.int .i64 y_2)),(16,.p (.bool y_3))],[(30000,.box 26 [.p (.int .i64 y_4),.p (.int .u32 y_5),.own 30001,.own 30002]),(30001,.row true 4 65 (rowsOf encT65 y_6)),(30002,.row true 11 39 (rowsOf encT39 y_7)),(30003,.box 26 [.p (.int .i64 y_8),.p (.int .u32 y_9),.own 30004,.own 30005]),(30004,.row true 4 65 (rowsOf encT65 y_10)),(30005,.row true 11 39 (rowsOf encT39 y_11))]⟩ : St))
noncomputable def f26_aiirrz_l1_j2 (k : Nat) (x13 : List T39) (x14 x15 h0_ h0__1 : Int) (h1_ : List T65) (m27 : List T39) (h3_ h3__1 : Int) (h4_ : List T65) (h5_ : List T39) : Option R26_aiirrz_l1 :=
 some (R26_aiirrz_l1.o0 x13 x14 (IntKind.i64.wrap (x15 + (1 : Int))) h0_ h0__1 h1_ m27 h3_ h3__1 h4_ h5_)
theorem f26_aiirrz_l1_j2_ok (k : Nat) (x13 : List T39) (x14 x15 h0_ h0__1 : Int) (h1_ : List T65) (m27 : List T39) (h3_ h3__1 : Int) (h4_ : List T65) (h5_ : List T39) (r : R26_aiirrz_l1) (hF : f26_aiirrz_l1_j2 k x13 x14 x15 h0_ h0__1 h1_ m27 h3_ h3__1 h4_ h5_ = some r) : EX 26 k (nav B26 [2,2,2,1,2,2,1,2,2,2,2]) (⟨31,[(1,.ptr 30000 0),(2,.ptr 30003 0),(13,.sl 11 (rowsOf encT39 x13)),(14,.p (.int .i64 x14)),(15,.p (.int .i64 x15))],[(30000,.box 26 [.p (.int .i64 h0_),.p (.int .u32 h0__1),.own 30001,.own 27]),(30001,.row true 4 65 (rowsOf encT65 h1_)),(27,.row true 11 39 (rowsOf encT39 m27)),(30003,.box 26 [.p (.int .i64 h3_),.p (.int .u32 h3__1),.own 30004,.own 30005]),(30004,.row true 4 65 (rowsOf encT65 h4_)),(30005,.row true 11 39 (rowsOf encT39 h5_))]⟩ : St) = some r.st := by
 unfold f26_aiirrz_l1_j2 at hF
 cases hF
 simp (maxSteps:=999999) (disch:=first|exact D (by decide)|exact K (by kernel_rfl)) only [E,EE,↓reduceIte,simprocAttr,rg B26 [2,2,2,1,2,2,1,2,2,2,2] 9 false rfl,hr_26_9,R26_aiirrz_l1.st]
noncomputable def f26_aiirrz_l1_j1 (k : Nat) (x13 : List T39) (x14 x15 : Int) (x16 : Bool) (h0_ h0__1 : Int) (h1_ : List T65) (h2_ : List T39) (h3_ h3__1 : Int) (h4_ : List T65) (h5_ : List T39) : Option R26_aiirrz_l1 :=
 ifE ((0 : Int) ≤ x15) (
  Option.bind (x13[(Int.toNat x15)]?) fun v2 =>
   Option.bind (f49_r k v2.Payload) fun o4 =>
    match o4 with
    | .o0 v7 =>
     ifE (((List.length h2_) + 1) * 104 ≤ roomy) (
      f26_aiirrz_l1_j2 k x13 x14 x15 h0_ h0__1 h1_ (h2_ ++ ([(T39.mk v2.Source v2.Dest v2.Seq v2.Created v2.Lifetime v2.HopLimit v2.Hops v2.Priority v2.Offset v2.Total v7)] : List T39)) h3_ h3__1 h4_ h5_))
theorem f26_aiirrz_l1_j1_ok (k : Nat) (x13 : List T39) (x14 x15 : Int) (x16 : Bool) (h0_ h0__1 : Int) (h1_ : List T65) (h2_ : List T39) (h3_ h3__1 : Int) (h4_ : List T65) (h5_ : List T39) (r : R26_aiirrz_l1) (hF : f26_aiirrz_l1_j1 k x13 x14 x15 x16 h0_ h0__1 h1_ h2_ h3_ h3__1 h4_ h5_ = some r) : EX 26 k (nav B26 [2,2,1,2,2,1,2,2,2,2]) (⟨31,[(1,.ptr 30000 0),(2,.ptr 30003 0),(13,.sl 11 (rowsOf encT39 x13)),(14,.p (.int .i64 x14)),(15,.p (.int .i64 x15)),(16,.p (.bool x16))],[(30000,.box 26 [.p (.int .i64 h0_),.p (.int .u32 h0__1),.own 30001,.own 30002]),(30001,.row true 4 65 (rowsOf encT65 h1_)),(30002,.row true 11 39 (rowsOf encT39 h2_)),(30003,.box 26 [.p (.int .i64 h3_),.p (.int .u32 h3__1),.own 30004,.own 30005]),(30004,.row true 4 65 (rowsOf encT65 h4_)),(30005,.row true 11 39 (rowsOf encT39 h5_))]⟩ : St) = some r.st := by
 unfold f26_aiirrz_l1_j1 at hF
 obtain ⟨h1,hF⟩ := ifE_some.1 hF
 obtain ⟨v2,h3,hF⟩ := bs hF
 obtain ⟨o4,h5,hF⟩ := bs hF
 have hc6 := f49_r_ok k v2.Payload _ h5
 cases o4 with
 | o0 v7 =>
  (try dsimp only at hF)
  (try simp only [NM,EE,R49_r.st] at hc6)
  have q8 : [[.p (.int .i64 v2.Source),.p (.int .i64 v2.Dest),.p (.int .u32 v2.Seq),.p (.int .i64 v2.Created),.p (.int .i64 v2.Lifetime),.p (.int .i64 v2.HopLimit),.p (.int .i64 v2.Hops),.p (.int .i64 v2.Priority),.p (.int .i64 v2.Offset),.p (.int .i64 v2.Total),.sl 1 (rowsOf (encI .u8) v7)]] = rowsOf encT39 ([(T39.mk v2.Source v2.Dest v2.Seq v2.Created v2.Lifetime v2.HopLimit v2.Hops v2.Priority v2.Offset v2.Total v7)] : List T39) := rfl
  have q9 : List.map (tell [0,0,0,0,0,0,0,0,0,0,1]) (rowsOf encT39 ([(T39.mk v2.Source v2.Dest v2.Seq v2.Created v2.Lifetime v2.HopLimit v2.Hops v2.Priority v2.Offset v2.Total v7)] : List T39)) = rowsOf encT39 ([(T39.mk v2.Source v2.Dest v2.Seq v2.Created v2.Lifetime v2.HopLimit v2.Hops v2.Priority v2.Offset v2.Total v7)] : List T39) := rfl
  obtain ⟨h10,hF⟩ := ifE_some.1 hF
  have hJ := f26_aiirrz_l1_j2_ok k x13 x14 x15 h0_ h0__1 h1_ (h2_ ++ ([(T39.mk v2.Source v2.Dest v2.Seq v2.Created v2.Lifetime v2.HopLimit v2.Hops v2.Priority v2.Offset v2.Total v7)] : List T39)) h3_ h3__1 h4_ h5_ _ hF
  simp (maxSteps:=999999) (disch:=first|exact D (by decide)|exact K (by kernel_rfl)) only [E,EE,↓reduceIte,simprocAttr,xk B26 [2,2,1,2,2,1,2,2,2,2] .sq rfl,xk B26 [1,2,2,1,2,2,1,2,2,2,2] (.bk 1) rfl,xk B26 [2,1,2,2,1,2,2,1,2,2,2,2] .sq rfl,rg B26 [1,2,1,2,2,1,2,2,1,2,2,2,2] 6 false rfl,hr_26_6,indexAddrV,t_24,t_39,encT39_eq,xk B26 [2,2,1,2,2,1,2,2,1,2,2,2,2] .sq rfl,rg B26 [1,2,2,1,2,2,1,2,2,1,2,2,2,2] 7 false rfl,hr_26_7,fieldAddrV,t_29,callStep,CL,gv,List.contains,rg B26 [2,2,2,1,2,2,1,2,2,1,2,2,2,2] 8 false rfl,hr_26_8,t_26,buildSliceV,fillRows,sm_39,appendV,content,h1,h3,hc6,q8,q9,h10]
  try simp only [NM,EE] at hJ
  exact hJ
noncomputable def f26_aiirrz_l1_b (k : Nat) (x13 : List T39) (x14 x15 h0_ h0__1 : Int) (h1_ : List T65) (h2_ : List T39) (h3_ h3__1 : Int) (h4_ : List T65) (h5_ : List T39) : Option R26_aiirrz_l1 :=
 cond ((decide (x15 < x14)))
  (f26_aiirrz_l1_j1 k x13 x14 x15 true h0_ h0__1 h1_ h2_ h3_ h3__1 h4_ h5_)
  (some (R26_aiirrz_l1.o1 x13 x14 x15 false h0_ h0__1 h1_ h2_ h3_ h3__1 h4_ h5_))
theorem f26_aiirrz_l1_b_ok (k : Nat) (x13 : List T39) (x14 x15 h0_ h0__1 : Int) (h1_ : List T65) (h2_ : List T39) (h3_ h3__1 : Int) (h4_ : List T65) (h5_ : List T39) (r : R26_aiirrz_l1) (hF : f26_aiirrz_l1_b k x13 x14 x15 h0_ h0__1 h1_ h2_ h3_ h3__1 h4_ h5_ = some r) : EX 26 k (nav B26 [1,2,2,1,2,2,2,2]) (⟨31,[(1,.ptr 30000 0),(2,.ptr 30003 0),(13,.sl 11 (rowsOf encT39 x13)),(14,.p (.int .i64 x14)),(15,.p (.int .i64 x15))],[(30000,.box 26 [.p (.int .i64 h0_),.p (.int .u32 h0__1),.own 30001,.own 30002]),(30001,.row true 4 65 (rowsOf encT65 h1_)),(30002,.row true 11 39 (rowsOf encT39 h2_)),(30003,.box 26 [.p (.int .i64 h3_),.p (.int .u32 h3__1),.own 30004,.own 30005]),(30004,.row true 4 65 (rowsOf encT65 h4_)),(30005,.row true 11 39 (rowsOf encT39 h5_))]⟩ : St) = some r.st := by
 unfold f26_aiirrz_l1_b at hF
 simp (maxSteps:=999999) (disch:=first|exact D (by decide)|exact K (by kernel_rfl)) only [E,EE,↓reduceIte,simprocAttr,xk B26 [1,2,2,1,2,2,2,2] .sq rfl,rg B26 [1,1,2,2,1,2,2,2,2] 5 false rfl,hr_26_5,xk B26 [2,1,2,2,1,2,2,2,2] .sq rfl,xk B26 [1,2,1,2,2,1,2,2,2,2] (.cd 16) rfl]
 rcases cond_some hF with ⟨h1,hF⟩ | ⟨h1,hF⟩
 ·have hJ := f26_aiirrz_l1_j1_ok k x13 x14 x15 true h0_ h0__1 h1_ h2_ h3_ h3__1 h4_ h5_ _ hF
  simp (maxSteps:=999999) (disch:=first|exact D (by decide)|exact K (by kernel_rfl)) only [E,EE,↓reduceIte,simprocAttr,xk B26 [2,1,2,1,2,2,1,2,2,2,2] .sk rfl,h1]
  try simp only [NM,EE] at hJ
  exact hJ
 ·cases hF
  simp (maxSteps:=999999) (disch:=first|exact D (by decide)|exact K (by kernel_rfl)) only [E,EE,↓reduceIte,simprocAttr,xk B26 [3,1,2,1,2,2,1,2,2,2,2] (.ex 0) rfl,R26_aiirrz_l1.st,h1]
noncomputable def f26_aiirrz_l1 (k : Nat) : Nat → (List T39) → Int → Int → Int → Int → (List T65) → (List T39) → Int → Int → (List T65) → (List T39) → Option R26_aiirrz_l1
 | 0,_,_,_,_,_,_,_,_,_,_,_ => none
 | n + 1,x13,x14,x15,h0_,h0__1,h1_,h2_,h3_,h3__1,h4_,h5_ => Option.bind (f26_aiirrz_l1_b k x13 x14 x15 h0_ h0__1 h1_ h2_ h3_ h3__1 h4_ h5_) fun o =>
  match o with
  | .o0 y y_1 y_2 y_3 y_4 y_5 y_6 y_7 y_8 y_9 y_10 => f26_aiirrz_l1 k n y y_1 y_2 y_3 y_4 y_5 y_6 y_7 y_8 y_9 y_10
  | .o1 y y_1 y_2 y_3 y_4 y_5 y_6 y_7 y_8 y_9 y_10 y_11 => some (.o1 y y_1 y_2 y_3 y_4 y_5 y_6 y_7 y_8 y_9 y_10 y_11)
theorem f26_aiirrz_l1_ok (k n : Nat) : ∀ (x13 : List T39) (x14 x15 h0_ h0__1 : Int) (h1_ : List T65) (h2_ : List T39) (h3_ h3__1 : Int) (h4_ : List T65) (h5_ : List T39) (r : R26_aiirrz_l1) (hF : f26_aiirrz_l1 k n x13 x14 x15 h0_ h0__1 h1_ h2_ h3_ h3__1 h4_ h5_ = some r) (σ : St) (hσ : headR (hints.head 26 5) (hints.canon 26 5) σ = some (⟨31,[(1,.ptr 30000 0),(2,.ptr 30003 0),(13,.sl 11 (rowsOf encT39 x13)),(14,.p (.int .i64 x14)),(15,.p (.int .i64 x15))],[(30000,.box 26 [.p (.int .i64 h0_),.p (.int .u32 h0__1),.own 30001,.own 30002]),(30001,.row true 4 65 (rowsOf encT65 h1_)),(30002,.row true 11 39 (rowsOf encT39 h2_)),(30003,.box 26 [.p (.int .i64 h3_),.p (.int .u32 h3__1),.own 30004,.own 30005]),(30004,.row true 4 65 (rowsOf encT65 h4_)),(30005,.row true 11 39 (rowsOf encT39 h5_))]⟩ : St)),LP 26 k (nav B26 [1,2,2,1,2,2,2,2]) n σ = some r.st := by
 induction n with
 | zero => intro x13 x14 x15 h0_ h0__1 h1_ h2_ h3_ h3__1 h4_ h5_ r hF; cases hF
 | succ n ih =>
  intro x13 x14 x15 h0_ h0__1 h1_ h2_ h3_ h3__1 h4_ h5_ r hF σ hσ
  rw [f26_aiirrz_l1] at hF
  obtain ⟨o,h,hF⟩ := Option.bind_eq_some_iff.1 hF
  have hB := f26_aiirrz_l1_b_ok k x13 x14 x15 h0_ h0__1 h1_ h2_ h3_ h3__1 h4_ h5_ o h
  unfold LP at ih ⊢
  unfold EX at hB
  rw [loopK_succ,show firstReg (nav B26 [1,2,2,1,2,2,2,2]) = 5 from rfl,hσ,headK_some,hB]
  cases o with
  | o0 y y_1 y_2 y_3 y_4 y_5 y_6 y_7 y_8 y_9 y_10 =>
   refine ih y y_1 y_2 y_3 y_4 y_5 y_6 y_7 y_8 y_9 y_10 r hF _ ?_
   simp (maxSteps:=999999) (disch:=first|exact D (by decide)|exact K (by kernel_rfl)) only [E,EE,↓reduceIte,simprocAttr,hh_26_5,hc_26_5]
  | o1 y y_1 y_2 y_3 y_4 y_5 y_6 y_7 y_8 y_9 y_10 y_11 => cases hF; rfl
noncomputable def f26_aiirrz_j2 (k : Nat) (x13 : List T39) (x14 x15 : Int) (x16 : Bool) (h0_ h0__1 : Int) (h1_ : List T65) (h2_ : List T39) (h3_ h3__1 : Int) (h4_ : List T65) (h5_ : List T39) : Option R26_aiirrz :=
 some (R26_aiirrz.o0 h0_ h0__1 h1_ h2_)
theorem f26_aiirrz_j2_ok (k : Nat) (x13 : List T39) (x14 x15 : Int) (x16 : Bool) (h0_ h0__1 : Int) (h1_ : List T65) (h2_ : List T39) (h3_ h3__1 : Int) (h4_ : List T65) (h5_ : List T39) (r : R26_aiirrz) (hF : f26_aiirrz_j2 k x13 x14 x15 x16 h0_ h0__1 h1_ h2_ h3_ h3__1 h4_ h5_ = some r) : finK Try.prog Try.f26 0 (EX 26 k (nav B26 [2,2,2,2,2]) (⟨31,[(1,.ptr 30000 0),(2,.ptr 30003 0),(13,.sl 11 (rowsOf encT39 x13)),(14,.p (.int .i64 x14)),(15,.p (.int .i64 x15)),(16,.p (.bool x16))],[(30000,.box 26 [.p (.int .i64 h0_),.p (.int .u32 h0__1),.own 30001,.own 30002]),(30001,.row true 4 65 (rowsOf encT65 h1_)),(30002,.row true 11 39 (rowsOf encT39 h2_)),(30003,.box 26 [.p (.int .i64 h3_),.p (.int .u32 h3__1),.own 30004,.own 30005]),(30004,.row true 4 65 (rowsOf encT65 h4_)),(30005,.row true 11 39 (rowsOf encT39 h5_))]⟩ : St)) = some r.st := by
 unfold f26_aiirrz_j2 at hF
 cases hF
 simp (maxSteps:=999999) (disch:=first|exact D (by decide)|exact K (by kernel_rfl)) only [E,EE,↓reduceIte,simprocAttr,xk B26 [2,2,2,2,2] .sq rfl,rg B26 [1,2,2,2,2,2] 10 false rfl,hr_26_10,t_26,xk B26 [2,2,2,2,2,2] .rt rfl,finK_norm,finK_ret,fin26,R26_aiirrz.st]
noncomputable def f26_aiirrz_e (k : Nat) (a0 a0_1 : Int) (a0_2 : List T65) (a0_3 : List T39) : Option R26_aiirrz :=
 Option.bind (f48_r k a0_2) fun o1 =>
  match o1 with
  | .o0 v4 =>
   Option.bind (f26_aiirrz_l1 k k a0_3 ((List.length a0_3) : Int) 0 a0 a0_1 v4 [] 0 0 [] []) fun o5 =>
    match o5 with
    | .o0 _ _ _ _ _ _ _ _ _ _ _ =>
     none
    | .o1 v8 v9 v10 v11 v12 v13 v14 v15 v16 v17 v18 v19 =>
     f26_aiirrz_j2 k v8 v9 v10 v11 v12 v13 v14 v15 v16 v17 v18 v19
theorem f26_aiirrz_e_ok (k : Nat) (a0 a0_1 : Int) (a0_2 : List T65) (a0_3 : List T39) (r : R26_aiirrz) (hF : f26_aiirrz_e k a0 a0_1 a0_2 a0_3 = some r) : finK Try.prog Try.f26 0 (EX 26 k (nav B26 []) (⟨31,[(0,.agg [.p (.int .i64 a0),.p (.int .u32 a0_1),.sl 4 (rowsOf encT65 a0_2),.sl 11 (rowsOf encT39 a0_3)])],[]⟩ : St)) = some r.st := by
 unfold f26_aiirrz_e at hF
 obtain ⟨o1,h2,hF⟩ := bs hF
 have hc3 := f48_r_ok k a0_2 _ h2
 cases o1 with
 | o0 v4 =>
  (try dsimp only at hF)
  (try simp only [NM,EE,R48_r.st] at hc3)
  obtain ⟨o5,h6,hF⟩ := bs hF
  have hc7 := f26_aiirrz_l1_ok k k a0_3 ((List.length a0_3) : Int) 0 a0 a0_1 v4 [] 0 0 [] [] _ h6
  simp (maxSteps:=999999) (disch:=first|exact D (by decide)|exact K (by kernel_rfl)) only [E,EE,↓reduceIte,simprocAttr,xk B26 [] .sq rfl,rg B26 [1] 0 false rfl,hr_26_0,t_26,xk B26 [2] .sq rfl,rg B26 [1,2] 1 false rfl,hr_26_1,fieldAddrV,t_23,callStep,CL,gv,List.contains,xk B26 [2,2] .sq rfl,rg B26 [1,2,2] 2 false rfl,hr_26_2,t_24,xk B26 [2,2,2] .sq rfl,rg B26 [1,2,2,2] 3 false rfl,hr_26_3,xk B26 [2,2,2,2] .sq rfl,xk B26 [1,2,2,2,2] .sq rfl,rg B26 [1,1,2,2,2,2] 4 false rfl,hr_26_4,xk B26 [2,1,2,2,2,2] (.bk 0) rfl,xk B26 [2,2,1,2,2,2,2] .lp rfl,hh_26_5,hc_26_5,hc3]
  (try simp only [NM,EE] at hc7)
  rw [hc7 _ (by simp (maxSteps:=999999) (disch:=first|exact D (by decide)|exact K (by kernel_rfl)) only [E,EE,↓reduceIte,simprocAttr,hh_26_5,hc_26_5,hc3])]
  clear hc7
  cases o5 with
  | o0 _ _ _ _ _ _ _ _ _ _ _ =>
   (try dsimp only at hF)
   cases hF
  | o1 v8 v9 v10 v11 v12 v13 v14 v15 v16 v17 v18 v19 =>
   (try dsimp only at hF)
   have hJ := f26_aiirrz_j2_ok k v8 v9 v10 v11 v12 v13 v14 v15 v16 v17 v18 v19 _ hF
   simp (maxSteps:=999999) (disch:=first|exact D (by decide)|exact K (by kernel_rfl)) only [E,EE,↓reduceIte,simprocAttr,R26_aiirrz_l1.st,hc3]
   try simp only [NM,EE] at hJ
   exact hJ
noncomputable def f26_aiirrz (k : Nat) (a0 a0_1 : Int) (a0_2 : List T65) (a0_3 : List T39) : Option R26_aiirrz := match k with | 0 => none | k + 1 => f26_aiirrz_e k a0 a0_1 a0_2 a0_3
theorem f26_aiirrz_ok (k : Nat) (a0 a0_1 : Int) (a0_2 : List T65) (a0_3 : List T39) (r : R26_aiirrz) (hF : f26_aiirrz k a0 a0_1 a0_2 a0_3 = some r) : CV k 26 [.agg [.p (.int .i64 a0),.p (.int .u32 a0_1),.sl 4 (rowsOf encT65 a0_2),.sl 11 (rowsOf encT39 a0_3)]] [] = some r.st := by
 cases k with
 | zero => cases hF
 | succ k =>
  unfold CV
  rw [ev_call (F := Try.f26) (c := (nav B26 [])) rfl Try.func26 rfl rfl rfl rfl]
  exact f26_aiirrz_e_ok k a0 a0_1 a0_2 a0_3 r hF
end Go.Proofs.YticggdfaehneeaaV
