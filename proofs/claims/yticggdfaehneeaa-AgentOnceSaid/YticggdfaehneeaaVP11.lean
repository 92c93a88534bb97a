/- What the program's functions answer: plain functions,and that the interpreter answers what they do. Written by a program of this session,out of the translation. -/
import Derived.Test.YticggdfaehneeaaVP10
namespace Go.Proofs.YticggdfaehneeaaV
open Go
set_option linter.unusedVariables false
set_option linter.unusedSimpArgs false
set_option maxRecDepth 8000
set_option maxHeartbeats 4000000
-- f32_pai10rzi_biiooww: f32 heliograph/agent.judge
inductive R32_pai10rzi_biiooww where
 | o0 (y y_1 y_2 y_3 y_4 y_5 y_6 y_7 y_8 y_9 y_10:Int) (y_11:List Int) (y_12 y_13:Int) (y_14:List T65) (y_15:List T39)
 | o1 (y y_1 y_2 y_3 y_4 y_5 y_6 y_7 y_8 y_9 y_10 y_11 y_12:Int) (y_13:List T39) (y_14:List Int) (y_15:List T65)
 | o2 (y y_1 y_2 y_3 y_4 y_5 y_6 y_7 y_8 y_9 y_10 y_11 y_12:Int) (y_13 y_14:Nat) (y_15:List T39) (y_16:List Int) (y_17:List T65)
 | o3 (y y_1 y_2 y_3 y_4 y_5 y_6 y_7 y_8 y_9 y_10:Int) (y_11:List Int) (y_12 y_13:Int) (y_14:List T39) (y_15:List T65)
 | o4 (y y_1 y_2 y_3 y_4 y_5 y_6 y_7 y_8 y_9 y_10:Int) (y_11:List Int) (y_12 y_13:Int) (y_14 y_15:Nat) (y_16:List T39) (y_17:List T65)
 | o5 (y y_1 y_2 y_3 y_4 y_5 y_6 y_7 y_8 y_9 y_10:Int) (y_11:List Int) (y_12 y_13:Int) (y_14 y_15:Nat) (y_16:List T39) (y_17:List T65)
 | o6 (y y_1 y_2 y_3 y_4 y_5 y_6 y_7 y_8 y_9 y_10:Int) (y_11:List Int) (y_12 y_13:Int) (y_14 y_15 y_16 y_17:Nat) (y_18:List T39) (y_19:List T65)
 | o7 (y y_1 y_2 y_3 y_4 y_5 y_6 y_7 y_8 y_9 y_10:Int) (y_11:List Int) (y_12 y_13:Int) (y_14:List T65) (y_15:List T39)
 | o8 (y y_1 y_2 y_3 y_4 y_5 y_6 y_7 y_8 y_9 y_10:Int) (y_11:List Int) (y_12 y_13:Int) (y_14 y_15:Nat) (y_16:List T65) (y_17:List T39)
 | o9 (y y_1 y_2 y_3 y_4 y_5 y_6 y_7 y_8 y_9 y_10 y_11 y_12:Int) (y_13:List T39) (y_14:List Int) (y_15:List T65)
 | o10 (y y_1 y_2 y_3 y_4 y_5 y_6 y_7 y_8 y_9 y_10 y_11 y_12:Int) (y_13 y_14:Nat) (y_15:List T39) (y_16:List Int) (y_17:List T65)
 | o11 (y y_1 y_2 y_3 y_4 y_5 y_6 y_7 y_8 y_9 y_10 y_11 y_12:Int) (y_13 y_14:Nat) (y_15:List T39) (y_16:List Int) (y_17:List T65)
 | o12 (y y_1 y_2 y_3 y_4 y_5 y_6 y_7 y_8 y_9 y_10 y_11 y_12:Int) (y_13 y_14 y_15 y_16:Nat) (y_17:List T39) (y_18:List Int) (y_19:List T65)
noncomputable def R32_pai10rzi_biiooww.st : R32_pai10rzi_biiooww → V × List O × List O
 | .o0 y y_1 y_2 y_3 y_4 y_5 y_6 y_7 y_8 y_9 y_10 y_11 y_12 y_13 y_14 y_15 => (.agg [.p (.int .i64 y),.p (.int .i64 y_1),.p (.int .i64 y_2),.p (.int .u32 y_3),.p (.int .i64 y_4),.p (.int .i64 y_5),.p (.int .i64 y_6),.p (.int .i64 y_7),.p (.int .i64 y_8),.p (.int .i64 y_9),.p (.int .i64 y_10),.sl 1 (rowsOf (encI .u8) y_11)],[.box 26 [.p (.int .i64 y_12),.p (.int .u32 y_13),.own 1000001,.own 1000002],.row true 4 65 (rowsOf encT65 y_14),.row true 11 39 (rowsOf encT39 y_15)],[])
 | .o1 y y_1 y_2 y_3 y_4 y_5 y_6 y_7 y_8 y_9 y_10 y_11 y_12 y_13 y_14 y_15 => (.agg [.p (.int .i64 y),.p (.int .i64 y_1),.p (.int .i64 y_2),.p (.int .u32 y_3),.p (.int .i64 y_4),.p (.int .i64 y_5),.p (.int .i64 y_6),.p (.int .i64 y_7),.p (.int .i64 y_8),.p (.int .i64 y_9),.p (.int .i64 y_10),.own 2000000],[.box 26 [.p (.int .i64 y_11),.p (.int .u32 y_12),.own 2000001,.own 1000002],.dead,.row true 11 39 (rowsOf encT39 y_13)],[.row false 1 5 (rowsOf (encI .u8) y_14),.row true 4 65 (rowsOf encT65 y_15)])
 | .o2 y y_1 y_2 y_3 y_4 y_5 y_6 y_7 y_8 y_9 y_10 y_11 y_12 y_13 y_14 y_15 y_16 y_17 => (.agg [.p (.int .i64 y),.p (.int .i64 y_1),.p (.int .i64 y_2),.p (.int .u32 y_3),.p (.int .i64 y_4),.p (.int .i64 y_5),.p (.int .i64 y_6),.p (.int .i64 y_7),.p (.int .i64 y_8),.p (.int .i64 y_9),.p (.int .i64 y_10),.own 2000000],[.box 26 [.p (.int .i64 y_11),.p (.int .u32 y_12),V.cut 2000001 4 y_13 y_14,.own 1000002],.dead,.row true 11 39 (rowsOf encT39 y_15)],[.row false 1 5 (rowsOf (encI .u8) y_16),.row true 4 65 (rowsOf encT65 y_17)])
 | .o3 y y_1 y_2 y_3 y_4 y_5 y_6 y_7 y_8 y_9 y_10 y_11 y_12 y_13 y_14 y_15 => (.agg [.p (.int .i64 y),.p (.int .i64 y_1),.p (.int .i64 y_2),.p (.int .u32 y_3),.p (.int .i64 y_4),.p (.int .i64 y_5),.p (.int .i64 y_6),.p (.int .i64 y_7),.p (.int .i64 y_8),.p (.int .i64 y_9),.p (.int .i64 y_10),.sl 1 (rowsOf (encI .u8) y_11)],[.box 26 [.p (.int .i64 y_12),.p (.int .u32 y_13),.own 2000000,.own 1000002],.dead,.row true 11 39 (rowsOf encT39 y_14)],[.row true 4 65 (rowsOf encT65 y_15)])
 | .o4 y y_1 y_2 y_3 y_4 y_5 y_6 y_7 y_8 y_9 y_10 y_11 y_12 y_13 y_14 y_15 y_16 y_17 => (.agg [.p (.int .i64 y),.p (.int .i64 y_1),.p (.int .i64 y_2),.p (.int .u32 y_3),.p (.int .i64 y_4),.p (.int .i64 y_5),.p (.int .i64 y_6),.p (.int .i64 y_7),.p (.int .i64 y_8),.p (.int .i64 y_9),.p (.int .i64 y_10),.sl 1 (rowsOf (encI .u8) y_11)],[.box 26 [.p (.int .i64 y_12),.p (.int .u32 y_13),V.cut 2000000 4 y_14 y_15,.own 1000002],.dead,.row true 11 39 (rowsOf encT39 y_16)],[.row true 4 65 (rowsOf encT65 y_17)])
 | .o5 y y_1 y_2 y_3 y_4 y_5 y_6 y_7 y_8 y_9 y_10 y_11 y_12 y_13 y_14 y_15 y_16 y_17 => (.agg [.p (.int .i64 y),.p (.int .i64 y_1),.p (.int .i64 y_2),.p (.int .u32 y_3),.p (.int .i64 y_4),.p (.int .i64 y_5),.p (.int .i64 y_6),.p (.int .i64 y_7),.p (.int .i64 y_8),.p (.int .i64 y_9),.p (.int .i64 y_10),.sl 1 (rowsOf (encI .u8) y_11)],[.box 26 [.p (.int .i64 y_12),.p (.int .u32 y_13),.own 2000000,V.cut 1000002 11 y_14 y_15],.dead,.row true 11 39 (rowsOf encT39 y_16)],[.row true 4 65 (rowsOf encT65 y_17)])
 | .o6 y y_1 y_2 y_3 y_4 y_5 y_6 y_7 y_8 y_9 y_10 y_11 y_12 y_13 y_14 y_15 y_16 y_17 y_18 y_19 => (.agg [.p (.int .i64 y),.p (.int .i64 y_1),.p (.int .i64 y_2),.p (.int .u32 y_3),.p (.int .i64 y_4),.p (.int .i64 y_5),.p (.int .i64 y_6),.p (.int .i64 y_7),.p (.int .i64 y_8),.p (.int .i64 y_9),.p (.int .i64 y_10),.sl 1 (rowsOf (encI .u8) y_11)],[.box 26 [.p (.int .i64 y_12),.p (.int .u32 y_13),V.cut 2000000 4 y_14 y_15,V.cut 1000002 11 y_16 y_17],.dead,.row true 11 39 (rowsOf encT39 y_18)],[.row true 4 65 (rowsOf encT65 y_19)])
 | .o7 y y_1 y_2 y_3 y_4 y_5 y_6 y_7 y_8 y_9 y_10 y_11 y_12 y_13 y_14 y_15 => (.agg [.p (.int .i64 y),.p (.int .i64 y_1),.p (.int .i64 y_2),.p (.int .u32 y_3),.p (.int .i64 y_4),.p (.int .i64 y_5),.p (.int .i64 y_6),.p (.int .i64 y_7),.p (.int .i64 y_8),.p (.int .i64 y_9),.p (.int .i64 y_10),.sl 1 (rowsOf (encI .u8) y_11)],[.box 26 [.p (.int .i64 y_12),.p (.int .u32 y_13),.own 2000000,.own 2000001],.dead,.dead],[.row true 4 65 (rowsOf encT65 y_14),.row true 11 39 (rowsOf encT39 y_15)])
 | .o8 y y_1 y_2 y_3 y_4 y_5 y_6 y_7 y_8 y_9 y_10 y_11 y_12 y_13 y_14 y_15 y_16 y_17 => (.agg [.p (.int .i64 y),.p (.int .i64 y_1),.p (.int .i64 y_2),.p (.int .u32 y_3),.p (.int .i64 y_4),.p (.int .i64 y_5),.p (.int .i64 y_6),.p (.int .i64 y_7),.p (.int .i64 y_8),.p (.int .i64 y_9),.p (.int .i64 y_10),.sl 1 (rowsOf (encI .u8) y_11)],[.box 26 [.p (.int .i64 y_12),.p (.int .u32 y_13),V.cut 2000000 4 y_14 y_15,.own 2000001],.dead,.dead],[.row true 4 65 (rowsOf encT65 y_16),.row true 11 39 (rowsOf encT39 y_17)])
 | .o9 y y_1 y_2 y_3 y_4 y_5 y_6 y_7 y_8 y_9 y_10 y_11 y_12 y_13 y_14 y_15 => (.agg [.p (.int .i64 y),.p (.int .i64 y_1),.p (.int .i64 y_2),.p (.int .u32 y_3),.p (.int .i64 y_4),.p (.int .i64 y_5),.p (.int .i64 y_6),.p (.int .i64 y_7),.p (.int .i64 y_8),.p (.int .i64 y_9),.p (.int .i64 y_10),.own 2000000],[.box 26 [.p (.int .i64 y_11),.p (.int .u32 y_12),.own 2000001,.own 1000002],.dead,.row true 11 39 (rowsOf encT39 y_13)],[.row true 1 5 (rowsOf (encI .u8) y_14),.row true 4 65 (rowsOf encT65 y_15)])
 | .o10 y y_1 y_2 y_3 y_4 y_5 y_6 y_7 y_8 y_9 y_10 y_11 y_12 y_13 y_14 y_15 y_16 y_17 => (.agg [.p (.int .i64 y),.p (.int .i64 y_1),.p (.int .i64 y_2),.p (.int .u32 y_3),.p (.int .i64 y_4),.p (.int .i64 y_5),.p (.int .i64 y_6),.p (.int .i64 y_7),.p (.int .i64 y_8),.p (.int .i64 y_9),.p (.int .i64 y_10),.own 2000000],[.box 26 [.p (.int .i64 y_11),.p (.int .u32 y_12),.own 2000001,V.cut 1000002 11 y_13 y_14],.dead,.row true 11 39 (rowsOf encT39 y_15)],[.row true 1 5 (rowsOf (encI .u8) y_16),.row true 4 65 (rowsOf encT65 y_17)])
 | .o11 y y_1 y_2 y_3 y_4 y_5 y_6 y_7 y_8 y_9 y_10 y_11 y_12 y_13 y_14 y_15 y_16 y_17 => (.agg [.p (.int .i64 y),.p (.int .i64 y_1),.p (.int .i64 y_2),.p (.int .u32 y_3),.p (.int .i64 y_4),.p (.int .i64 y_5),.p (.int .i64 y_6),.p (.int .i64 y_7),.p (.int .i64 y_8),.p (.int .i64 y_9),.p (.int .i64 y_10),.own 2000000],[.box 26 [.p (.int .i64 y_11),.p (.int .u32 y_12),V.cut 2000001 4 y_13 y_14,.own 1000002],.dead,.row true 11 39 (rowsOf encT39 y_15)],[.row true 1 5 (rowsOf (encI .u8) y_16),.row true 4 65 (rowsOf encT65 y_17)])
 | .o12 y y_1 y_2 y_3 y_4 y_5 y_6 y_7 y_8 y_9 y_10 y_11 y_12 y_13 y_14 y_15 y_16 y_17 y_18 y_19 => (.agg [.p (.int .i64 y),.p (.int .i64 y_1),.p (.int .i64 y_2),.p (.int .u32 y_3),.p (.int .i64 y_4),.p (.int .i64 y_5),.p (.int .i64 y_6),.p (.int .i64 y_7),.p (.int .i64 y_8),.p (.int .i64 y_9),.p (.int .i64 y_10),.own 2000000],[.box 26 [.p (.int .i64 y_11),.p (.int .u32 y_12),V.cut 2000001 4 y_13 y_14,V.cut 1000002 11 y_15 y_16],.dead,.row true 11 39 (rowsOf encT39 y_17)],[.row true 1 5 (rowsOf (encI .u8) y_18),.row true 4 65 (rowsOf encT65 y_19)])
noncomputable def f32_pai10rzi_biiooww_j4 (k:Nat) (x126:Bool) (e0 e0_1:Int) (e1:List T65) (e2:List T39) (m4 m4_1 m4_2 m4_3 m4_4 m4_5 m4_6 m4_7 m4_8 m4_9:Int) (m4_10:List Int) (m6 m6_1 m6_2 m6_3 m6_4 m6_5 m6_6 m6_7 m6_8 m6_9 m6_10:Int) (s0:List Int) (m10 m10_1 m10_2 m10_3 m10_4 m10_5 m10_6 m10_7 m10_8 m10_9:Int) (m10_10:List Int) : Option R32_pai10rzi_biiooww :=
 Option.bind (f54_pai10rz_biiooww k m4 m4_1 m4_2 m4_3 m4_4 m4_5 m4_6 m4_7 m4_8 m4_9 m4_10 e0 e0_1 e1 e2) fun o1 =>
  match o1 with
  | .o0 v4 v5 v6 v7 =>
   Option.bind (f42_oF57p_wbiiiiiiiiiir k v6 m4 m4_1 m4_2 m4_3 m4_4 m4_5 m4_6 m4_7 m4_8 m4_9 m4_10) fun o8 =>
    match o8 with
    | .o0 v11 v12 v13 v14 v15 v16 v17 v18 v19 v20 v21 v22 =>
     some (R32_pai10rzi_biiooww.o3 9 m10 m10_1 m10_2 m10_3 m10_4 m10_5 m10_6 m10_7 m10_8 m10_9 m10_10 v4 v5 v11 v7)
    | .o1 v23 v24 v25 v26 v27 v28 v29 v30 v31 v32 v33 v34 v35 v36 =>
     some (R32_pai10rzi_biiooww.o5 9 m10 m10_1 m10_2 m10_3 m10_4 m10_5 m10_6 m10_7 m10_8 m10_9 m10_10 v4 v5 v23 v24 v25 v7)
  | .o1 v37 v38 v39 v40 v41 v42 =>
   Option.bind (f42_oF57p_wbiiiiiiiiiir k v41 m4 m4_1 m4_2 m4_3 m4_4 m4_5 m4_6 m4_7 m4_8 m4_9 m4_10) fun o43 =>
    match o43 with
    | .o0 v46 v47 v48 v49 v50 v51 v52 v53 v54 v55 v56 v57 =>
     some (R32_pai10rzi_biiooww.o4 9 m10 m10_1 m10_2 m10_3 m10_4 m10_5 m10_6 m10_7 m10_8 m10_9 m10_10 v37 v38 v39 v40 v46 v42)
    | .o1 v58 v59 v60 v61 v62 v63 v64 v65 v66 v67 v68 v69 v70 v71 =>
     some (R32_pai10rzi_biiooww.o6 9 m10 m10_1 m10_2 m10_3 m10_4 m10_5 m10_6 m10_7 m10_8 m10_9 m10_10 v37 v38 v39 v40 v58 v59 v60 v42)
theorem f32_pai10rzi_biiooww_j4_ok (k:Nat) (x126:Bool) (e0 e0_1:Int) (e1:List T65) (e2:List T39) (m4 m4_1 m4_2 m4_3 m4_4 m4_5 m4_6 m4_7 m4_8 m4_9:Int) (m4_10:List Int) (m6 m6_1 m6_2 m6_3 m6_4 m6_5 m6_6 m6_7 m6_8 m6_9 m6_10:Int) (s0:List Int) (m10 m10_1 m10_2 m10_3 m10_4 m10_5 m10_6 m10_7 m10_8 m10_9:Int) (m10_10:List Int) (r:R32_pai10rzi_biiooww) (hF:f32_pai10rzi_biiooww_j4 k x126 e0 e0_1 e1 e2 m4 m4_1 m4_2 m4_3 m4_4 m4_5 m4_6 m4_7 m4_8 m4_9 m4_10 m6 m6_1 m6_2 m6_3 m6_4 m6_5 m6_6 m6_7 m6_8 m6_9 m6_10 s0 m10 m10_1 m10_2 m10_3 m10_4 m10_5 m10_6 m10_7 m10_8 m10_9 m10_10 = some r) : finK Try.prog Try.f32 3 (EX 32 k (nav B32 [2,2,2,2,2,2,2,2,2]) (⟨158,[(0,.ptr 1000000 0),(4,.ptr 4 0),(6,.ptr 6 0),(7,V.p (Value.func (Fn.func 51) #[] #[])),(10,.ptr 10 0),(126,.p (.bool x126))],[(1000000,.box 26 [.p (.int .i64 e0),.p (.int .u32 e0_1),.own 1000001,.own 1000002]),(1000001,.row true 4 65 (rowsOf encT65 e1)),(1000002,.row true 11 39 (rowsOf encT39 e2)),(4,.box 39 [.p (.int .i64 m4),.p (.int .i64 m4_1),.p (.int .u32 m4_2),.p (.int .i64 m4_3),.p (.int .i64 m4_4),.p (.int .i64 m4_5),.p (.int .i64 m4_6),.p (.int .i64 m4_7),.p (.int .i64 m4_8),.p (.int .i64 m4_9),.sl 1 (rowsOf (encI .u8) m4_10)]),(6,.box 48 [.p (.int .i64 m6),.p (.int .i64 m6_1),.p (.int .i64 m6_2),.p (.int .u32 m6_3),.p (.int .i64 m6_4),.p (.int .i64 m6_5),.p (.int .i64 m6_6),.p (.int .i64 m6_7),.p (.int .i64 m6_8),.p (.int .i64 m6_9),.p (.int .i64 m6_10),.own 700000]),(700000,.row true 1 5 (rowsOf (encI .u8) s0)),(10,.box 39 [.p (.int .i64 m10),.p (.int .i64 m10_1),.p (.int .u32 m10_2),.p (.int .i64 m10_3),.p (.int .i64 m10_4),.p (.int .i64 m10_5),.p (.int .i64 m10_6),.p (.int .i64 m10_7),.p (.int .i64 m10_8),.p (.int .i64 m10_9),.sl 1 (rowsOf (encI .u8) m10_10)])]⟩ : St)) = some r.st := by
 unfold f32_pai10rzi_biiooww_j4 at hF
 simp (maxSteps:=999999) (disch:=first|exact D (by decide)|exact K (by kernel_rfl)) only [E,EE,↓reduceIte,simprocAttr,xk B32 [2,2,2,2,2,2,2,2,2] .sq rfl,rg B32 [1,2,2,2,2,2,2,2,2,2] 30 false rfl,hr_32_30,t_39,callStep,CL,gv,List.contains]
 obtain ⟨o1,h2,hF⟩ := bs hF
 have hc3 := f54_pai10rz_biiooww_ok k m4 m4_1 m4_2 m4_3 m4_4 m4_5 m4_6 m4_7 m4_8 m4_9 m4_10 e0 e0_1 e1 e2 _ h2
 cases o1 with
 | o0 v4 v5 v6 v7 =>
  (try dsimp only at hF)
  (try simp only [NM,EE,R54_pai10rz_biiooww.st] at hc3)
  simp (maxSteps:=999999) (disch:=first|exact D (by decide)|exact K (by kernel_rfl)) only [E,EE,↓reduceIte,simprocAttr,xk B32 [2,2,2,2,2,2,2,2,2,2] .sq rfl,rg B32 [1,2,2,2,2,2,2,2,2,2,2] 31 false rfl,hr_32_31,fieldAddrV,t_26,t_24,callStep,CL,gv,List.contains,hc3]
  obtain ⟨o8,h9,hF⟩ := bs hF
  have hc10 := f42_oF57p_wbiiiiiiiiiir_ok k v6 m4 m4_1 m4_2 m4_3 m4_4 m4_5 m4_6 m4_7 m4_8 m4_9 m4_10 _ h9
  cases o8 with
  | o0 v11 v12 v13 v14 v15 v16 v17 v18 v19 v20 v21 v22 =>
   (try dsimp only at hF)
   (try simp only [NM,EE,R42_oF57p_wbiiiiiiiiiir.st] at hc10)
   cases hF
   simp (maxSteps:=999999) (disch:=first|exact D (by decide)|exact K (by kernel_rfl)) only [E,EE,↓reduceIte,simprocAttr,fieldAddrV,t_26,t_24,xk B32 [2,2,2,2,2,2,2,2,2,2,2] .sq rfl,rg B32 [1,2,2,2,2,2,2,2,2,2,2,2] 32 false rfl,hr_32_32,t_39,bl_48,t_48,xk B32 [2,2,2,2,2,2,2,2,2,2,2,2] .rt rfl,finK_norm,finK_ret,fin32,R32_pai10rzi_biiooww.st,hc3,hc10]
  | o1 v23 v24 v25 v26 v27 v28 v29 v30 v31 v32 v33 v34 v35 v36 =>
   (try dsimp only at hF)
   (try simp only [NM,EE,R42_oF57p_wbiiiiiiiiiir.st] at hc10)
   cases hF
   simp (maxSteps:=999999) (disch:=first|exact D (by decide)|exact K (by kernel_rfl)) only [E,EE,↓reduceIte,simprocAttr,fieldAddrV,t_26,t_24,xk B32 [2,2,2,2,2,2,2,2,2,2,2] .sq rfl,rg B32 [1,2,2,2,2,2,2,2,2,2,2,2] 32 false rfl,hr_32_32,t_39,bl_48,t_48,xk B32 [2,2,2,2,2,2,2,2,2,2,2,2] .rt rfl,finK_norm,finK_ret,fin32,R32_pai10rzi_biiooww.st,hc3,hc10]
 | o1 v37 v38 v39 v40 v41 v42 =>
  (try dsimp only at hF)
  (try simp only [NM,EE,R54_pai10rz_biiooww.st] at hc3)
  simp (maxSteps:=999999) (disch:=first|exact D (by decide)|exact K (by kernel_rfl)) only [E,EE,↓reduceIte,simprocAttr,xk B32 [2,2,2,2,2,2,2,2,2,2] .sq rfl,rg B32 [1,2,2,2,2,2,2,2,2,2,2] 31 false rfl,hr_32_31,fieldAddrV,t_26,t_24,callStep,CL,gv,List.contains,hc3]
  obtain ⟨o43,h44,hF⟩ := bs hF
  have hc45 := f42_oF57p_wbiiiiiiiiiir_ok k v41 m4 m4_1 m4_2 m4_3 m4_4 m4_5 m4_6 m4_7 m4_8 m4_9 m4_10 _ h44
  cases o43 with
  | o0 v46 v47 v48 v49 v50 v51 v52 v53 v54 v55 v56 v57 =>
   (try dsimp only at hF)
   (try simp only [NM,EE,R42_oF57p_wbiiiiiiiiiir.st] at hc45)
   cases hF
   simp (maxSteps:=999999) (disch:=first|exact D (by decide)|exact K (by kernel_rfl)) only [E,EE,↓reduceIte,simprocAttr,fieldAddrV,t_26,t_24,xk B32 [2,2,2,2,2,2,2,2,2,2,2] .sq rfl,rg B32 [1,2,2,2,2,2,2,2,2,2,2,2] 32 false rfl,hr_32_32,t_39,bl_48,t_48,xk B32 [2,2,2,2,2,2,2,2,2,2,2,2] .rt rfl,finK_norm,finK_ret,fin32,R32_pai10rzi_biiooww.st,hc3,hc45]
  | o1 v58 v59 v60 v61 v62 v63 v64 v65 v66 v67 v68 v69 v70 v71 =>
   (try dsimp only at hF)
   (try simp only [NM,EE,R42_oF57p_wbiiiiiiiiiir.st] at hc45)
   cases hF
   simp (maxSteps:=999999) (disch:=first|exact D (by decide)|exact K (by kernel_rfl)) only [E,EE,↓reduceIte,simprocAttr,fieldAddrV,t_26,t_24,xk B32 [2,2,2,2,2,2,2,2,2,2,2] .sq rfl,rg B32 [1,2,2,2,2,2,2,2,2,2,2,2] 32 false rfl,hr_32_32,t_39,bl_48,t_48,xk B32 [2,2,2,2,2,2,2,2,2,2,2,2] .rt rfl,finK_norm,finK_ret,fin32,R32_pai10rzi_biiooww.st,hc3,hc45]
noncomputable def f32_pai10rzi_biiooww_j5 (k:Nat) (x126:Bool) (e0 e0_1:Int) (e1:List T65) (e2:List T39) (m4 m4_1 m4_2 m4_3 m4_4 m4_5 m4_6 m4_7 m4_8 m4_9:Int) (m4_10:List Int) (m6 m6_1 m6_2 m6_3 m6_4 m6_5 m6_6 m6_7 m6_8 m6_9 m6_10:Int) (s0:List Int) (m10 m10_1 m10_2 m10_3 m10_4 m10_5 m10_6 m10_7 m10_8 m10_9:Int) (m110:List Int) : Option R32_pai10rzi_biiooww :=
 Option.bind (f54_pai10rz_biiooww k m4 m4_1 m4_2 m4_3 m4_4 m4_5 m4_6 m4_7 m4_8 m4_9 m4_10 e0 e0_1 e1 e2) fun o1 =>
  match o1 with
  | .o0 v4 v5 v6 v7 =>
   Option.bind (f42_oF57p_wbiiiiiiiiiir k v6 m4 m4_1 m4_2 m4_3 m4_4 m4_5 m4_6 m4_7 m4_8 m4_9 m4_10) fun o8 =>
    match o8 with
    | .o0 v11 v12 v13 v14 v15 v16 v17 v18 v19 v20 v21 v22 =>
     some (R32_pai10rzi_biiooww.o9 9 m10 m10_1 m10_2 m10_3 m10_4 m10_5 m10_6 m10_7 m10_8 m10_9 v4 v5 v11 m110 v7)
    | .o1 v23 v24 v25 v26 v27 v28 v29 v30 v31 v32 v33 v34 v35 v36 =>
     some (R32_pai10rzi_biiooww.o10 9 m10 m10_1 m10_2 m10_3 m10_4 m10_5 m10_6 m10_7 m10_8 m10_9 v4 v5 v23 v24 v25 m110 v7)
  | .o1 v37 v38 v39 v40 v41 v42 =>
   Option.bind (f42_oF57p_wbiiiiiiiiiir k v41 m4 m4_1 m4_2 m4_3 m4_4 m4_5 m4_6 m4_7 m4_8 m4_9 m4_10) fun o43 =>
    match o43 with
    | .o0 v46 v47 v48 v49 v50 v51 v52 v53 v54 v55 v56 v57 =>
     some (R32_pai10rzi_biiooww.o11 9 m10 m10_1 m10_2 m10_3 m10_4 m10_5 m10_6 m10_7 m10_8 m10_9 v37 v38 v39 v40 v46 m110 v42)
    | .o1 v58 v59 v60 v61 v62 v63 v64 v65 v66 v67 v68 v69 v70 v71 =>
     some (R32_pai10rzi_biiooww.o12 9 m10 m10_1 m10_2 m10_3 m10_4 m10_5 m10_6 m10_7 m10_8 m10_9 v37 v38 v39 v40 v58 v59 v60 m110 v42)
theorem f32_pai10rzi_biiooww_j5_ok (k:Nat) (x126:Bool) (e0 e0_1:Int) (e1:List T65) (e2:List T39) (m4 m4_1 m4_2 m4_3 m4_4 m4_5 m4_6 m4_7 m4_8 m4_9:Int) (m4_10:List Int) (m6 m6_1 m6_2 m6_3 m6_4 m6_5 m6_6 m6_7 m6_8 m6_9 m6_10:Int) (s0:List Int) (m10 m10_1 m10_2 m10_3 m10_4 m10_5 m10_6 m10_7 m10_8 m10_9:Int) (m110:List Int) (r:R32_pai10rzi_biiooww) (hF:f32_pai10rzi_biiooww_j5 k x126 e0 e0_1 e1 e2 m4 m4_1 m4_2 m4_3 m4_4 m4_5 m4_6 m4_7 m4_8 m4_9 m4_10 m6 m6_1 m6_2 m6_3 m6_4 m6_5 m6_6 m6_7 m6_8 m6_9 m6_10 s0 m10 m10_1 m10_2 m10_3 m10_4 m10_5 m10_6 m10_7 m10_8 m10_9 m110 = some r) : finK Try.prog Try.f32 3 (EX 32 k (nav B32 [2,2,2,2,2,2,2,2,2]) (⟨158,[(0,.ptr 1000000 0),(4,.ptr 4 0),(6,.ptr 6 0),(7,V.p (Value.func (Fn.func 51) #[] #[])),(10,.ptr 10 0),(126,.p (.bool x126))],[(1000000,.box 26 [.p (.int .i64 e0),.p (.int .u32 e0_1),.own 1000001,.own 1000002]),(1000001,.row true 4 65 (rowsOf encT65 e1)),(1000002,.row true 11 39 (rowsOf encT39 e2)),(4,.box 39 [.p (.int .i64 m4),.p (.int .i64 m4_1),.p (.int .u32 m4_2),.p (.int .i64 m4_3),.p (.int .i64 m4_4),.p (.int .i64 m4_5),.p (.int .i64 m4_6),.p (.int .i64 m4_7),.p (.int .i64 m4_8),.p (.int .i64 m4_9),.sl 1 (rowsOf (encI .u8) m4_10)]),(6,.box 48 [.p (.int .i64 m6),.p (.int .i64 m6_1),.p (.int .i64 m6_2),.p (.int .u32 m6_3),.p (.int .i64 m6_4),.p (.int .i64 m6_5),.p (.int .i64 m6_6),.p (.int .i64 m6_7),.p (.int .i64 m6_8),.p (.int .i64 m6_9),.p (.int .i64 m6_10),.own 700000]),(700000,.row true 1 5 (rowsOf (encI .u8) s0)),(10,.box 39 [.p (.int .i64 m10),.p (.int .i64 m10_1),.p (.int .u32 m10_2),.p (.int .i64 m10_3),.p (.int .i64 m10_4),.p (.int .i64 m10_5),.p (.int .i64 m10_6),.p (.int .i64 m10_7),.p (.int .i64 m10_8),.p (.int .i64 m10_9),.own 110]),(110,.row true 1 5 (rowsOf (encI .u8) m110))]⟩ : St)) = some r.st := by
 unfold f32_pai10rzi_biiooww_j5 at hF
 simp (maxSteps:=999999) (disch:=first|exact D (by decide)|exact K (by kernel_rfl)) only [E,EE,↓reduceIte,simprocAttr,xk B32 [2,2,2,2,2,2,2,2,2] .sq rfl,rg B32 [1,2,2,2,2,2,2,2,2,2] 30 false rfl,hr_32_30,t_39,callStep,CL,gv,List.contains]
 obtain ⟨o1,h2,hF⟩ := bs hF
 have hc3 := f54_pai10rz_biiooww_ok k m4 m4_1 m4_2 m4_3 m4_4 m4_5 m4_6 m4_7 m4_8 m4_9 m4_10 e0 e0_1 e1 e2 _ h2
 cases o1 with
 | o0 v4 v5 v6 v7 =>
  (try dsimp only at hF)
  (try simp only [NM,EE,R54_pai10rz_biiooww.st] at hc3)
  simp (maxSteps:=999999) (disch:=first|exact D (by decide)|exact K (by kernel_rfl)) only [E,EE,↓reduceIte,simprocAttr,xk B32 [2,2,2,2,2,2,2,2,2,2] .sq rfl,rg B32 [1,2,2,2,2,2,2,2,2,2,2] 31 false rfl,hr_32_31,fieldAddrV,t_26,t_24,callStep,CL,gv,List.contains,hc3]
  obtain ⟨o8,h9,hF⟩ := bs hF
  have hc10 := f42_oF57p_wbiiiiiiiiiir_ok k v6 m4 m4_1 m4_2 m4_3 m4_4 m4_5 m4_6 m4_7 m4_8 m4_9 m4_10 _ h9
  cases o8 with
  | o0 v11 v12 v13 v14 v15 v16 v17 v18 v19 v20 v21 v22 =>
   (try dsimp only at hF)
   (try simp only [NM,EE,R42_oF57p_wbiiiiiiiiiir.st] at hc10)
   cases hF
   simp (maxSteps:=999999) (disch:=first|exact D (by decide)|exact K (by kernel_rfl)) only [E,EE,↓reduceIte,simprocAttr,fieldAddrV,t_26,t_24,xk B32 [2,2,2,2,2,2,2,2,2,2,2] .sq rfl,rg B32 [1,2,2,2,2,2,2,2,2,2,2,2] 32 false rfl,hr_32_32,t_39,bl_48,t_48,xk B32 [2,2,2,2,2,2,2,2,2,2,2,2] .rt rfl,finK_norm,finK_ret,fin32,R32_pai10rzi_biiooww.st,hc3,hc10]
  | o1 v23 v24 v25 v26 v27 v28 v29 v30 v31 v32 v33 v34 v35 v36 =>
   (try dsimp only at hF)
   (try simp only [NM,EE,R42_oF57p_wbiiiiiiiiiir.st] at hc10)
   cases hF
   simp (maxSteps:=999999) (disch:=first|exact D (by decide)|exact K (by kernel_rfl)) only [E,EE,↓reduceIte,simprocAttr,fieldAddrV,t_26,t_24,xk B32 [2,2,2,2,2,2,2,2,2,2,2] .sq rfl,rg B32 [1,2,2,2,2,2,2,2,2,2,2,2] 32 false rfl,hr_32_32,t_39,bl_48,t_48,xk B32 [2,2,2,2,2,2,2,2,2,2,2,2] .rt rfl,finK_norm,finK_ret,fin32,R32_pai10rzi_biiooww.st,hc3,hc10]
 | o1 v37 v38 v39 v40 v41 v42 =>
  (try dsimp only at hF)
  (try simp only [NM,EE,R54_pai10rz_biiooww.st] at hc3)
  simp (maxSteps:=999999) (disch:=first|exact D (by decide)|exact K (by kernel_rfl)) only [E,EE,↓reduceIte,simprocAttr,xk B32 [2,2,2,2,2,2,2,2,2,2] .sq rfl,rg B32 [1,2,2,2,2,2,2,2,2,2,2] 31 false rfl,hr_32_31,fieldAddrV,t_26,t_24,callStep,CL,gv,List.contains,hc3]
  obtain ⟨o43,h44,hF⟩ := bs hF
  have hc45 := f42_oF57p_wbiiiiiiiiiir_ok k v41 m4 m4_1 m4_2 m4_3 m4_4 m4_5 m4_6 m4_7 m4_8 m4_9 m4_10 _ h44
  cases o43 with
  | o0 v46 v47 v48 v49 v50 v51 v52 v53 v54 v55 v56 v57 =>
   (try dsimp only at hF)
   (try simp only [NM,EE,R42_oF57p_wbiiiiiiiiiir.st] at hc45)
   cases hF
   simp (maxSteps:=999999) (disch:=first|exact D (by decide)|exact K (by kernel_rfl)) only [E,EE,↓reduceIte,simprocAttr,fieldAddrV,t_26,t_24,xk B32 [2,2,2,2,2,2,2,2,2,2,2] .sq rfl,rg B32 [1,2,2,2,2,2,2,2,2,2,2,2] 32 false rfl,hr_32_32,t_39,bl_48,t_48,xk B32 [2,2,2,2,2,2,2,2,2,2,2,2] .rt rfl,finK_norm,finK_ret,fin32,R32_pai10rzi_biiooww.st,hc3,hc45]
  | o1 v58 v59 v60 v61 v62 v63 v64 v65 v66 v67 v68 v69 v70 v71 =>
   (try dsimp only at hF)
   (try simp only [NM,EE,R42_oF57p_wbiiiiiiiiiir.st] at hc45)
   cases hF
   simp (maxSteps:=999999) (disch:=first|exact D (by decide)|exact K (by kernel_rfl)) only [E,EE,↓reduceIte,simprocAttr,fieldAddrV,t_26,t_24,xk B32 [2,2,2,2,2,2,2,2,2,2,2] .sq rfl,rg B32 [1,2,2,2,2,2,2,2,2,2,2,2] 32 false rfl,hr_32_32,t_39,bl_48,t_48,xk B32 [2,2,2,2,2,2,2,2,2,2,2,2] .rt rfl,finK_norm,finK_ret,fin32,R32_pai10rzi_biiooww.st,hc3,hc45]
noncomputable def f32_pai10rzi_biiooww_j3 (k:Nat) (x82:Bool) (e0 e0_1:Int) (e1:List T65) (e2:List T39) (m4 m4_1 m4_2 m4_3 m4_4 m4_5 m4_6 m4_7 m4_8 m4_9:Int) (m4_10:List Int) (m6 m6_1 m6_2 m6_3 m6_4 m6_5 m6_6 m6_7 m6_8 m6_9 m6_10:Int) (s0:List Int) : Option R32_pai10rzi_biiooww :=
 Option.bind (f37_ai10rz k m4 m4_1 m4_2 m4_3 m4_4 m4_5 m4_6 m4_7 m4_8 m4_9 m4_10) fun o1 =>
  match o1 with
  | .o0 v4 v5 =>
   Option.bind (f36_aiioozaiiz_ww k e0 e0_1 v4 v5 e1 e2) fun o6 =>
    match o6 with
    | .o0 v9 v10 v11 =>
     ifE (((List.length v11) + 1) * 104 ≤ roomy) (
      Option.bind (f56_r k (v11 ++ ([(T39.mk m4 m4_1 m4_2 m4_3 m4_4 m4_5 m4_6 m4_7 m4_8 m4_9 m4_10)] : List T39))) fun o15 =>
       match o15 with
       | .o0 v18 v19 v20 v21 v22 v23 v24 v25 v26 v27 v28 v29 =>
        cond ((v29 == 280))
         (
          Option.bind (f51_i k 7) fun o31 =>
           match o31 with
           | .o0 v34 v35 v36 v37 v38 v39 v40 v41 v42 v43 v44 v45 =>
            some (R32_pai10rzi_biiooww.o0 v34 v35 v36 v37 v38 v39 v40 v41 v42 v43 v44 v45 e0 e0_1 v9 v10))
         (
          cond ((((List.length v10) : Int) == 7))
           (
            Option.bind (f51_i k 7) fun o47 =>
             match o47 with
             | .o0 v50 v51 v52 v53 v54 v55 v56 v57 v58 v59 v60 v61 =>
              some (R32_pai10rzi_biiooww.o0 v50 v51 v52 v53 v54 v55 v56 v57 v58 v59 v60 v61 e0 e0_1 v9 v10))
           (
            cond ((v29 != 0))
             (
              Option.bind (f54_pai10rz_biiooww k m4 m4_1 m4_2 m4_3 m4_4 m4_5 m4_6 m4_7 m4_8 m4_9 m4_10 e0 e0_1 v9 v10) fun o63 =>
               match o63 with
               | .o0 v66 v67 v68 v69 =>
                ifE (((List.length v68) + 1) * 104 ≤ roomy) (
                 Option.bind (f51_i k 8) fun o73 =>
                  match o73 with
                  | .o0 v76 v77 v78 v79 v80 v81 v82 v83 v84 v85 v86 v87 =>
                   some (R32_pai10rzi_biiooww.o7 v76 v77 v78 v79 v80 v81 v82 v83 v84 v85 v86 v87 v66 v67 v69 (v68 ++ ([(T39.mk m4 m4_1 m4_2 m4_3 m4_4 m4_5 m4_6 m4_7 m4_8 m4_9 m4_10)] : List T39))))
               | .o1 v88 v89 v90 v91 v92 v93 =>
                ifE (((List.length v92) + 1) * 104 ≤ roomy) (
                 Option.bind (f51_i k 8) fun o97 =>
                  match o97 with
                  | .o0 v100 v101 v102 v103 v104 v105 v106 v107 v108 v109 v110 v111 =>
                   some (R32_pai10rzi_biiooww.o8 v100 v101 v102 v103 v104 v105 v106 v107 v108 v109 v110 v111 v88 v89 v90 v91 v93 (v92 ++ ([(T39.mk m4 m4_1 m4_2 m4_3 m4_4 m4_5 m4_6 m4_7 m4_8 m4_9 m4_10)] : List T39)))))
             (f32_pai10rzi_biiooww_j4 k false e0 e0_1 v9 v10 m4 m4_1 m4_2 m4_3 m4_4 m4_5 m4_6 m4_7 m4_8 m4_9 m4_10 m6 m6_1 m6_2 m6_3 m6_4 m6_5 m6_6 m6_7 m6_8 m6_9 m6_10 s0 v18 v19 v20 v21 v22 v23 v24 v25 v26 v27 v28)))
       | .o1 v112 v113 v114 v115 v116 v117 v118 v119 v120 v121 v122 v123 =>
        cond ((v122 == 280))
         (
          Option.bind (f51_i k 7) fun o125 =>
           match o125 with
           | .o0 v128 v129 v130 v131 v132 v133 v134 v135 v136 v137 v138 v139 =>
            some (R32_pai10rzi_biiooww.o0 v128 v129 v130 v131 v132 v133 v134 v135 v136 v137 v138 v139 e0 e0_1 v9 v10))
         (
          cond ((((List.length v10) : Int) == 7))
           (
            Option.bind (f51_i k 7) fun o141 =>
             match o141 with
             | .o0 v144 v145 v146 v147 v148 v149 v150 v151 v152 v153 v154 v155 =>
              some (R32_pai10rzi_biiooww.o0 v144 v145 v146 v147 v148 v149 v150 v151 v152 v153 v154 v155 e0 e0_1 v9 v10))
           (
            cond ((v122 != 0))
             (
              Option.bind (f54_pai10rz_biiooww k m4 m4_1 m4_2 m4_3 m4_4 m4_5 m4_6 m4_7 m4_8 m4_9 m4_10 e0 e0_1 v9 v10) fun o157 =>
               match o157 with
               | .o0 v160 v161 v162 v163 =>
                ifE (((List.length v162) + 1) * 104 ≤ roomy) (
                 Option.bind (f51_i k 8) fun o167 =>
                  match o167 with
                  | .o0 v170 v171 v172 v173 v174 v175 v176 v177 v178 v179 v180 v181 =>
                   some (R32_pai10rzi_biiooww.o7 v170 v171 v172 v173 v174 v175 v176 v177 v178 v179 v180 v181 v160 v161 v163 (v162 ++ ([(T39.mk m4 m4_1 m4_2 m4_3 m4_4 m4_5 m4_6 m4_7 m4_8 m4_9 m4_10)] : List T39))))
               | .o1 v182 v183 v184 v185 v186 v187 =>
                ifE (((List.length v186) + 1) * 104 ≤ roomy) (
                 Option.bind (f51_i k 8) fun o191 =>
                  match o191 with
                  | .o0 v194 v195 v196 v197 v198 v199 v200 v201 v202 v203 v204 v205 =>
                   some (R32_pai10rzi_biiooww.o8 v194 v195 v196 v197 v198 v199 v200 v201 v202 v203 v204 v205 v182 v183 v184 v185 v187 (v186 ++ ([(T39.mk m4 m4_1 m4_2 m4_3 m4_4 m4_5 m4_6 m4_7 m4_8 m4_9 m4_10)] : List T39)))))
             (f32_pai10rzi_biiooww_j5 k false e0 e0_1 v9 v10 m4 m4_1 m4_2 m4_3 m4_4 m4_5 m4_6 m4_7 m4_8 m4_9 m4_10 m6 m6_1 m6_2 m6_3 m6_4 m6_5 m6_6 m6_7 m6_8 m6_9 m6_10 s0 v112 v113 v114 v115 v116 v117 v118 v119 v120 v121 v123))))
theorem f32_pai10rzi_biiooww_j3_ok (k:Nat) (x82:Bool) (e0 e0_1:Int) (e1:List T65) (e2:List T39) (m4 m4_1 m4_2 m4_3 m4_4 m4_5 m4_6 m4_7 m4_8 m4_9:Int) (m4_10:List Int) (m6 m6_1 m6_2 m6_3 m6_4 m6_5 m6_6 m6_7 m6_8 m6_9 m6_10:Int) (s0:List Int) (r:R32_pai10rzi_biiooww) (hF:f32_pai10rzi_biiooww_j3 k x82 e0 e0_1 e1 e2 m4 m4_1 m4_2 m4_3 m4_4 m4_5 m4_6 m4_7 m4_8 m4_9 m4_10 m6 m6_1 m6_2 m6_3 m6_4 m6_5 m6_6 m6_7 m6_8 m6_9 m6_10 s0 = some r) : finK Try.prog Try.f32 3 (EX 32 k (nav B32 [2,2,2,2,2,2]) (⟨158,[(0,.ptr 1000000 0),(4,.ptr 4 0),(6,.ptr 6 0),(7,V.p (Value.func (Fn.func 51) #[] #[])),(82,.p (.bool x82))],[(1000000,.box 26 [.p (.int .i64 e0),.p (.int .u32 e0_1),.own 1000001,.own 1000002]),(1000001,.row true 4 65 (rowsOf encT65 e1)),(1000002,.row true 11 39 (rowsOf encT39 e2)),(4,.box 39 [.p (.int .i64 m4),.p (.int .i64 m4_1),.p (.int .u32 m4_2),.p (.int .i64 m4_3),.p (.int .i64 m4_4),.p (.int .i64 m4_5),.p (.int .i64 m4_6),.p (.int .i64 m4_7),.p (.int .i64 m4_8),.p (.int .i64 m4_9),.sl 1 (rowsOf (encI .u8) m4_10)]),(6,.box 48 [.p (.int .i64 m6),.p (.int .i64 m6_1),.p (.int .i64 m6_2),.p (.int .u32 m6_3),.p (.int .i64 m6_4),.p (.int .i64 m6_5),.p (.int .i64 m6_6),.p (.int .i64 m6_7),.p (.int .i64 m6_8),.p (.int .i64 m6_9),.p (.int .i64 m6_10),.own 700000]),(700000,.row true 1 5 (rowsOf (encI .u8) s0))]⟩ : St)) = some r.st := by
 unfold f32_pai10rzi_biiooww_j3 at hF
 obtain ⟨o1,h2,hF⟩ := bs hF
 have hc3 := f37_ai10rz_ok k m4 m4_1 m4_2 m4_3 m4_4 m4_5 m4_6 m4_7 m4_8 m4_9 m4_10 _ h2
 cases o1 with
 | o0 v4 v5 =>
  (try dsimp only at hF)
  (try simp only [NM,EE,R37_ai10rz.st] at hc3)
  obtain ⟨o6,h7,hF⟩ := bs hF
  have hc8 := f36_aiioozaiiz_ww_ok k e0 e0_1 v4 v5 e1 e2 _ h7
  cases o6 with
  | o0 v9 v10 v11 =>
   (try dsimp only at hF)
   (try simp only [NM,EE,R36_aiioozaiiz_ww.st] at hc8)
   have q12 : [[.p (.int .i64 m4),.p (.int .i64 m4_1),.p (.int .u32 m4_2),.p (.int .i64 m4_3),.p (.int .i64 m4_4),.p (.int .i64 m4_5),.p (.int .i64 m4_6),.p (.int .i64 m4_7),.p (.int .i64 m4_8),.p (.int .i64 m4_9),.sl 1 (rowsOf (encI .u8) m4_10)]] = rowsOf encT39 ([(T39.mk m4 m4_1 m4_2 m4_3 m4_4 m4_5 m4_6 m4_7 m4_8 m4_9 m4_10)] : List T39) := rfl
   have q13 : List.map (tell [0,0,0,0,0,0,0,0,0,0,1]) (rowsOf encT39 ([(T39.mk m4 m4_1 m4_2 m4_3 m4_4 m4_5 m4_6 m4_7 m4_8 m4_9 m4_10)] : List T39)) = rowsOf encT39 ([(T39.mk m4 m4_1 m4_2 m4_3 m4_4 m4_5 m4_6 m4_7 m4_8 m4_9 m4_10)] : List T39) := rfl
   obtain ⟨h14,hF⟩ := ifE_some.1 hF
   simp (maxSteps:=999999) (disch:=first|exact D (by decide)|exact K (by kernel_rfl)) only [E,EE,↓reduceIte,simprocAttr,xk B32 [2,2,2,2,2,2] .sq rfl,rg B32 [1,2,2,2,2,2,2] 22 true rfl,hr_32_22,t_26,t_39,callStep,CL,gv,List.contains,buildSliceV,fillRows,sm_39,t_24,appendV,content,xk B32 [2,2,2,2,2,2,2] .sq rfl,rg B32 [1,2,2,2,2,2,2,2] 23 false rfl,hr_32_23,hc3,hc8,q12,q13,h14]
   obtain ⟨o15,h16,hF⟩ := bs hF
   have hc17 := f56_r_ok k (v11 ++ ([(T39.mk m4 m4_1 m4_2 m4_3 m4_4 m4_5 m4_6 m4_7 m4_8 m4_9 m4_10)] : List T39)) _ h16
   cases o15 with
   | o0 v18 v19 v20 v21 v22 v23 v24 v25 v26 v27 v28 v29 =>
    (try dsimp only at hF)
    (try simp only [NM,EE,R56_r.st] at hc17)
    simp (maxSteps:=999999) (disch:=first|exact D (by decide)|exact K (by kernel_rfl)) only [E,EE,↓reduceIte,simprocAttr,t_39,xk B32 [2,2,2,2,2,2,2,2] .sq rfl,xk B32 [1,2,2,2,2,2,2,2,2] (.bk 1) rfl,xk B32 [2,1,2,2,2,2,2,2,2,2] .sq rfl,rg B32 [1,2,1,2,2,2,2,2,2,2,2] 24 false rfl,hr_32_24,hc3,hc8,q12,q13,h14,hc17]
    rcases cond_some hF with ⟨h30,hF⟩ | ⟨h30,hF⟩
    ·obtain ⟨o31,h32,hF⟩ := bs hF
     have hc33 := f51_i_ok k 7 _ h32
     cases o31 with
     | o0 v34 v35 v36 v37 v38 v39 v40 v41 v42 v43 v44 v45 =>
      (try dsimp only at hF)
      (try simp only [NM,EE,R51_i.st] at hc33)
      cases hF
      simp (maxSteps:=999999) (disch:=first|exact D (by decide)|exact K (by kernel_rfl)) only [E,EE,↓reduceIte,simprocAttr,xk B32 [2,2,1,2,2,2,2,2,2,2,2] (.cd 113) rfl,xk B32 [2,2,2,1,2,2,2,2,2,2,2,2] .sq rfl,rg B32 [1,2,2,2,1,2,2,2,2,2,2,2,2] 25 false rfl,hr_32_25,callStep,CL,gv,List.contains,t_48,xk B32 [2,2,2,2,1,2,2,2,2,2,2,2,2] .rt rfl,finK_norm,finK_ret,fin32,R32_pai10rzi_biiooww.st,hc3,hc8,q12,q13,h14,hc17,h30,hc33]
    ·simp (maxSteps:=999999) (disch:=first|exact D (by decide)|exact K (by kernel_rfl)) only [E,EE,↓reduceIte,simprocAttr,fieldAddrV,t_26,t_24,xk B32 [2,2,1,2,2,2,2,2,2,2,2] (.cd 113) rfl,hc3,hc8,q12,q13,h14,hc17,h30]
     rcases cond_some hF with ⟨h46,hF⟩ | ⟨h46,hF⟩
     ·obtain ⟨o47,h48,hF⟩ := bs hF
      have hc49 := f51_i_ok k 7 _ h48
      cases o47 with
      | o0 v50 v51 v52 v53 v54 v55 v56 v57 v58 v59 v60 v61 =>
       (try dsimp only at hF)
       (try simp only [NM,EE,R51_i.st] at hc49)
       cases hF
       simp (maxSteps:=999999) (disch:=first|exact D (by decide)|exact K (by kernel_rfl)) only [E,EE,↓reduceIte,simprocAttr,xk B32 [2,2,2,1,2,2,2,2,2,2,2,2] .sq rfl,rg B32 [1,2,2,2,1,2,2,2,2,2,2,2,2] 25 false rfl,hr_32_25,callStep,CL,gv,List.contains,t_48,xk B32 [2,2,2,2,1,2,2,2,2,2,2,2,2] .rt rfl,finK_norm,finK_ret,fin32,R32_pai10rzi_biiooww.st,hc3,hc8,q12,q13,h14,hc17,h30,h46,hc49]
     ·simp (maxSteps:=999999) (disch:=first|exact D (by decide)|exact K (by kernel_rfl)) only [E,EE,↓reduceIte,simprocAttr,xk B32 [3,2,2,1,2,2,2,2,2,2,2,2] .sq rfl,rg B32 [1,3,2,2,1,2,2,2,2,2,2,2,2] 26 false rfl,hr_32_26,xk B32 [2,3,2,2,1,2,2,2,2,2,2,2,2] (.cd 126) rfl,hc3,hc8,q12,q13,h14,hc17,h30,h46]
      rcases cond_some hF with ⟨h62,hF⟩ | ⟨h62,hF⟩
      ·simp (maxSteps:=999999) (disch:=first|exact D (by decide)|exact K (by kernel_rfl)) only [E,EE,↓reduceIte,simprocAttr,xk B32 [2,2,3,2,2,1,2,2,2,2,2,2,2,2] .sq rfl,rg B32 [1,2,2,3,2,2,1,2,2,2,2,2,2,2,2] 27 false rfl,hr_32_27,t_39,callStep,CL,gv,List.contains,hc3,hc8,q12,q13,h14,hc17,h30,h46,h62]
       obtain ⟨o63,h64,hF⟩ := bs hF
       have hc65 := f54_pai10rz_biiooww_ok k m4 m4_1 m4_2 m4_3 m4_4 m4_5 m4_6 m4_7 m4_8 m4_9 m4_10 e0 e0_1 v9 v10 _ h64
       cases o63 with
       | o0 v66 v67 v68 v69 =>
        (try dsimp only at hF)
        (try simp only [NM,EE,R54_pai10rz_biiooww.st] at hc65)
        have q70 : [[.p (.int .i64 m4),.p (.int .i64 m4_1),.p (.int .u32 m4_2),.p (.int .i64 m4_3),.p (.int .i64 m4_4),.p (.int .i64 m4_5),.p (.int .i64 m4_6),.p (.int .i64 m4_7),.p (.int .i64 m4_8),.p (.int .i64 m4_9),.sl 1 (rowsOf (encI .u8) m4_10)]] = rowsOf encT39 ([(T39.mk m4 m4_1 m4_2 m4_3 m4_4 m4_5 m4_6 m4_7 m4_8 m4_9 m4_10)] : List T39) := rfl
        have q71 : List.map (tell [0,0,0,0,0,0,0,0,0,0,1]) (rowsOf encT39 ([(T39.mk m4 m4_1 m4_2 m4_3 m4_4 m4_5 m4_6 m4_7 m4_8 m4_9 m4_10)] : List T39)) = rowsOf encT39 ([(T39.mk m4 m4_1 m4_2 m4_3 m4_4 m4_5 m4_6 m4_7 m4_8 m4_9 m4_10)] : List T39) := rfl
        obtain ⟨h72,hF⟩ := ifE_some.1 hF
        obtain ⟨o73,h74,hF⟩ := bs hF
        have hc75 := f51_i_ok k 8 _ h74
        cases o73 with
        | o0 v76 v77 v78 v79 v80 v81 v82 v83 v84 v85 v86 v87 =>
         (try dsimp only at hF)
         (try simp only [NM,EE,R51_i.st] at hc75)
         cases hF
         simp (maxSteps:=999999) (disch:=first|exact D (by decide)|exact K (by kernel_rfl)) only [E,EE,↓reduceIte,simprocAttr,xk B32 [2,2,2,3,2,2,1,2,2,2,2,2,2,2,2] .sq rfl,rg B32 [1,2,2,2,3,2,2,1,2,2,2,2,2,2,2,2] 28 true rfl,hr_32_28,fieldAddrV,t_26,t_24,t_39,buildSliceV,fillRows,sm_39,appendV,content,xk B32 [2,2,2,2,3,2,2,1,2,2,2,2,2,2,2,2] .sq rfl,rg B32 [1,2,2,2,2,3,2,2,1,2,2,2,2,2,2,2,2] 29 false rfl,hr_32_29,callStep,CL,gv,List.contains,t_48,xk B32 [2,2,2,2,2,3,2,2,1,2,2,2,2,2,2,2,2] .rt rfl,finK_norm,finK_ret,fin32,R32_pai10rzi_biiooww.st,hc3,hc8,q12,q13,h14,hc17,h30,h46,h62,hc65,q70,q71,h72,hc75]
       | o1 v88 v89 v90 v91 v92 v93 =>
        (try dsimp only at hF)
        (try simp only [NM,EE,R54_pai10rz_biiooww.st] at hc65)
        have q94 : [[.p (.int .i64 m4),.p (.int .i64 m4_1),.p (.int .u32 m4_2),.p (.int .i64 m4_3),.p (.int .i64 m4_4),.p (.int .i64 m4_5),.p (.int .i64 m4_6),.p (.int .i64 m4_7),.p (.int .i64 m4_8),.p (.int .i64 m4_9),.sl 1 (rowsOf (encI .u8) m4_10)]] = rowsOf encT39 ([(T39.mk m4 m4_1 m4_2 m4_3 m4_4 m4_5 m4_6 m4_7 m4_8 m4_9 m4_10)] : List T39) := rfl
        have q95 : List.map (tell [0,0,0,0,0,0,0,0,0,0,1]) (rowsOf encT39 ([(T39.mk m4 m4_1 m4_2 m4_3 m4_4 m4_5 m4_6 m4_7 m4_8 m4_9 m4_10)] : List T39)) = rowsOf encT39 ([(T39.mk m4 m4_1 m4_2 m4_3 m4_4 m4_5 m4_6 m4_7 m4_8 m4_9 m4_10)] : List T39) := rfl
        obtain ⟨h96,hF⟩ := ifE_some.1 hF
        obtain ⟨o97,h98,hF⟩ := bs hF
        have hc99 := f51_i_ok k 8 _ h98
        cases o97 with
        | o0 v100 v101 v102 v103 v104 v105 v106 v107 v108 v109 v110 v111 =>
         (try dsimp only at hF)
         (try simp only [NM,EE,R51_i.st] at hc99)
         cases hF
         simp (maxSteps:=999999) (disch:=first|exact D (by decide)|exact K (by kernel_rfl)) only [E,EE,↓reduceIte,simprocAttr,xk B32 [2,2,2,3,2,2,1,2,2,2,2,2,2,2,2] .sq rfl,rg B32 [1,2,2,2,3,2,2,1,2,2,2,2,2,2,2,2] 28 true rfl,hr_32_28,fieldAddrV,t_26,t_24,t_39,buildSliceV,fillRows,sm_39,appendV,content,xk B32 [2,2,2,2,3,2,2,1,2,2,2,2,2,2,2,2] .sq rfl,rg B32 [1,2,2,2,2,3,2,2,1,2,2,2,2,2,2,2,2] 29 false rfl,hr_32_29,callStep,CL,gv,List.contains,t_48,xk B32 [2,2,2,2,2,3,2,2,1,2,2,2,2,2,2,2,2] .rt rfl,finK_norm,finK_ret,fin32,R32_pai10rzi_biiooww.st,hc3,hc8,q12,q13,h14,hc17,h30,h46,h62,hc65,q94,q95,h96,hc99]
      ·have hJ := f32_pai10rzi_biiooww_j4_ok k false e0 e0_1 v9 v10 m4 m4_1 m4_2 m4_3 m4_4 m4_5 m4_6 m4_7 m4_8 m4_9 m4_10 m6 m6_1 m6_2 m6_3 m6_4 m6_5 m6_6 m6_7 m6_8 m6_9 m6_10 s0 v18 v19 v20 v21 v22 v23 v24 v25 v26 v27 v28 _ hF
       simp (maxSteps:=999999) (disch:=first|exact D (by decide)|exact K (by kernel_rfl)) only [E,EE,↓reduceIte,simprocAttr,xk B32 [3,2,3,2,2,1,2,2,2,2,2,2,2,2] .sk rfl,hc3,hc8,q12,q13,h14,hc17,h30,h46,h62]
       try simp only [NM,EE] at hJ
       exact hJ
   | o1 v112 v113 v114 v115 v116 v117 v118 v119 v120 v121 v122 v123 =>
    (try dsimp only at hF)
    (try simp only [NM,EE,R56_r.st] at hc17)
    simp (maxSteps:=999999) (disch:=first|exact D (by decide)|exact K (by kernel_rfl)) only [E,EE,↓reduceIte,simprocAttr,t_39,xk B32 [2,2,2,2,2,2,2,2] .sq rfl,xk B32 [1,2,2,2,2,2,2,2,2] (.bk 1) rfl,xk B32 [2,1,2,2,2,2,2,2,2,2] .sq rfl,rg B32 [1,2,1,2,2,2,2,2,2,2,2] 24 false rfl,hr_32_24,hc3,hc8,q12,q13,h14,hc17]
    rcases cond_some hF with ⟨h124,hF⟩ | ⟨h124,hF⟩
    ·obtain ⟨o125,h126,hF⟩ := bs hF
     have hc127 := f51_i_ok k 7 _ h126
     cases o125 with
     | o0 v128 v129 v130 v131 v132 v133 v134 v135 v136 v137 v138 v139 =>
      (try dsimp only at hF)
      (try simp only [NM,EE,R51_i.st] at hc127)
      cases hF
      simp (maxSteps:=999999) (disch:=first|exact D (by decide)|exact K (by kernel_rfl)) only [E,EE,↓reduceIte,simprocAttr,xk B32 [2,2,1,2,2,2,2,2,2,2,2] (.cd 113) rfl,xk B32 [2,2,2,1,2,2,2,2,2,2,2,2] .sq rfl,rg B32 [1,2,2,2,1,2,2,2,2,2,2,2,2] 25 false rfl,hr_32_25,callStep,CL,gv,List.contains,t_48,xk B32 [2,2,2,2,1,2,2,2,2,2,2,2,2] .rt rfl,finK_norm,finK_ret,fin32,R32_pai10rzi_biiooww.st,hc3,hc8,q12,q13,h14,hc17,h124,hc127]
    ·simp (maxSteps:=999999) (disch:=first|exact D (by decide)|exact K (by kernel_rfl)) only [E,EE,↓reduceIte,simprocAttr,fieldAddrV,t_26,t_24,xk B32 [2,2,1,2,2,2,2,2,2,2,2] (.cd 113) rfl,hc3,hc8,q12,q13,h14,hc17,h124]
     rcases cond_some hF with ⟨h140,hF⟩ | ⟨h140,hF⟩
     ·obtain ⟨o141,h142,hF⟩ := bs hF
      have hc143 := f51_i_ok k 7 _ h142
      cases o141 with
      | o0 v144 v145 v146 v147 v148 v149 v150 v151 v152 v153 v154 v155 =>
       (try dsimp only at hF)
       (try simp only [NM,EE,R51_i.st] at hc143)
       cases hF
       simp (maxSteps:=999999) (disch:=first|exact D (by decide)|exact K (by kernel_rfl)) only [E,EE,↓reduceIte,simprocAttr,xk B32 [2,2,2,1,2,2,2,2,2,2,2,2] .sq rfl,rg B32 [1,2,2,2,1,2,2,2,2,2,2,2,2] 25 false rfl,hr_32_25,callStep,CL,gv,List.contains,t_48,xk B32 [2,2,2,2,1,2,2,2,2,2,2,2,2] .rt rfl,finK_norm,finK_ret,fin32,R32_pai10rzi_biiooww.st,hc3,hc8,q12,q13,h14,hc17,h124,h140,hc143]
     ·simp (maxSteps:=999999) (disch:=first|exact D (by decide)|exact K (by kernel_rfl)) only [E,EE,↓reduceIte,simprocAttr,xk B32 [3,2,2,1,2,2,2,2,2,2,2,2] .sq rfl,rg B32 [1,3,2,2,1,2,2,2,2,2,2,2,2] 26 false rfl,hr_32_26,xk B32 [2,3,2,2,1,2,2,2,2,2,2,2,2] (.cd 126) rfl,hc3,hc8,q12,q13,h14,hc17,h124,h140]
      rcases cond_some hF with ⟨h156,hF⟩ | ⟨h156,hF⟩
      ·simp (maxSteps:=999999) (disch:=first|exact D (by decide)|exact K (by kernel_rfl)) only [E,EE,↓reduceIte,simprocAttr,xk B32 [2,2,3,2,2,1,2,2,2,2,2,2,2,2] .sq rfl,rg B32 [1,2,2,3,2,2,1,2,2,2,2,2,2,2,2] 27 false rfl,hr_32_27,t_39,callStep,CL,gv,List.contains,hc3,hc8,q12,q13,h14,hc17,h124,h140,h156]
       obtain ⟨o157,h158,hF⟩ := bs hF
       have hc159 := f54_pai10rz_biiooww_ok k m4 m4_1 m4_2 m4_3 m4_4 m4_5 m4_6 m4_7 m4_8 m4_9 m4_10 e0 e0_1 v9 v10 _ h158
       cases o157 with
       | o0 v160 v161 v162 v163 =>
        (try dsimp only at hF)
        (try simp only [NM,EE,R54_pai10rz_biiooww.st] at hc159)
        have q164 : [[.p (.int .i64 m4),.p (.int .i64 m4_1),.p (.int .u32 m4_2),.p (.int .i64 m4_3),.p (.int .i64 m4_4),.p (.int .i64 m4_5),.p (.int .i64 m4_6),.p (.int .i64 m4_7),.p (.int .i64 m4_8),.p (.int .i64 m4_9),.sl 1 (rowsOf (encI .u8) m4_10)]] = rowsOf encT39 ([(T39.mk m4 m4_1 m4_2 m4_3 m4_4 m4_5 m4_6 m4_7 m4_8 m4_9 m4_10)] : List T39) := rfl
        have q165 : List.map (tell [0,0,0,0,0,0,0,0,0,0,1]) (rowsOf encT39 ([(T39.mk m4 m4_1 m4_2 m4_3 m4_4 m4_5 m4_6 m4_7 m4_8 m4_9 m4_10)] : List T39)) = rowsOf encT39 ([(T39.mk m4 m4_1 m4_2 m4_3 m4_4 m4_5 m4_6 m4_7 m4_8 m4_9 m4_10)] : List T39) := rfl
        obtain ⟨h166,hF⟩ := ifE_some.1 hF
        obtain ⟨o167,h168,hF⟩ := bs hF
        have hc169 := f51_i_ok k 8 _ h168
        cases o167 with
        | o0 v170 v171 v172 v173 v174 v175 v176 v177 v178 v179 v180 v181 =>
         (try dsimp only at hF)
         (try simp only [NM,EE,R51_i.st] at hc169)
         cases hF
         simp (maxSteps:=999999) (disch:=first|exact D (by decide)|exact K (by kernel_rfl)) only [E,EE,↓reduceIte,simprocAttr,xk B32 [2,2,2,3,2,2,1,2,2,2,2,2,2,2,2] .sq rfl,rg B32 [1,2,2,2,3,2,2,1,2,2,2,2,2,2,2,2] 28 true rfl,hr_32_28,fieldAddrV,t_26,t_24,t_39,buildSliceV,fillRows,sm_39,appendV,content,xk B32 [2,2,2,2,3,2,2,1,2,2,2,2,2,2,2,2] .sq rfl,rg B32 [1,2,2,2,2,3,2,2,1,2,2,2,2,2,2,2,2] 29 false rfl,hr_32_29,callStep,CL,gv,List.contains,t_48,xk B32 [2,2,2,2,2,3,2,2,1,2,2,2,2,2,2,2,2] .rt rfl,finK_norm,finK_ret,fin32,R32_pai10rzi_biiooww.st,hc3,hc8,q12,q13,h14,hc17,h124,h140,h156,hc159,q164,q165,h166,hc169]
       | o1 v182 v183 v184 v185 v186 v187 =>
        (try dsimp only at hF)
        (try simp only [NM,EE,R54_pai10rz_biiooww.st] at hc159)
        have q188 : [[.p (.int .i64 m4),.p (.int .i64 m4_1),.p (.int .u32 m4_2),.p (.int .i64 m4_3),.p (.int .i64 m4_4),.p (.int .i64 m4_5),.p (.int .i64 m4_6),.p (.int .i64 m4_7),.p (.int .i64 m4_8),.p (.int .i64 m4_9),.sl 1 (rowsOf (encI .u8) m4_10)]] = rowsOf encT39 ([(T39.mk m4 m4_1 m4_2 m4_3 m4_4 m4_5 m4_6 m4_7 m4_8 m4_9 m4_10)] : List T39) := rfl
        have q189 : List.map (tell [0,0,0,0,0,0,0,0,0,0,1]) (rowsOf encT39 ([(T39.mk m4 m4_1 m4_2 m4_3 m4_4 m4_5 m4_6 m4_7 m4_8 m4_9 m4_10)] : List T39)) = rowsOf encT39 ([(T39.mk m4 m4_1 m4_2 m4_3 m4_4 m4_5 m4_6 m4_7 m4_8 m4_9 m4_10)] : List T39) := rfl
        obtain ⟨h190,hF⟩ := ifE_some.1 hF
        obtain ⟨o191,h192,hF⟩ := bs hF
        have hc193 := f51_i_ok k 8 _ h192
        cases o191 with
        | o0 v194 v195 v196 v197 v198 v199 v200 v201 v202 v203 v204 v205 =>
         (try dsimp only at hF)
         (try simp only [NM,EE,R51_i.st] at hc193)
         cases hF
         simp (maxSteps:=999999) (disch:=first|exact D (by decide)|exact K (by kernel_rfl)) only [E,EE,↓reduceIte,simprocAttr,xk B32 [2,2,2,3,2,2,1,2,2,2,2,2,2,2,2] .sq rfl,rg B32 [1,2,2,2,3,2,2,1,2,2,2,2,2,2,2,2] 28 true rfl,hr_32_28,fieldAddrV,t_26,t_24,t_39,buildSliceV,fillRows,sm_39,appendV,content,xk B32 [2,2,2,2,3,2,2,1,2,2,2,2,2,2,2,2] .sq rfl,rg B32 [1,2,2,2,2,3,2,2,1,2,2,2,2,2,2,2,2] 29 false rfl,hr_32_29,callStep,CL,gv,List.contains,t_48,xk B32 [2,2,2,2,2,3,2,2,1,2,2,2,2,2,2,2,2] .rt rfl,finK_norm,finK_ret,fin32,R32_pai10rzi_biiooww.st,hc3,hc8,q12,q13,h14,hc17,h124,h140,h156,hc159,q188,q189,h190,hc193]
      ·have hJ := f32_pai10rzi_biiooww_j5_ok k false e0 e0_1 v9 v10 m4 m4_1 m4_2 m4_3 m4_4 m4_5 m4_6 m4_7 m4_8 m4_9 m4_10 m6 m6_1 m6_2 m6_3 m6_4 m6_5 m6_6 m6_7 m6_8 m6_9 m6_10 s0 v112 v113 v114 v115 v116 v117 v118 v119 v120 v121 v123 _ hF
       simp (maxSteps:=999999) (disch:=first|exact D (by decide)|exact K (by kernel_rfl)) only [E,EE,↓reduceIte,simprocAttr,xk B32 [3,2,3,2,2,1,2,2,2,2,2,2,2,2] .sk rfl,hc3,hc8,q12,q13,h14,hc17,h124,h140,h156]
       try simp only [NM,EE] at hJ
       exact hJ
noncomputable def f32_pai10rzi_biiooww_j2 (k:Nat) (x71:Bool) (e0 e0_1:Int) (e1:List T65) (e2:List T39) (m4 m4_1 m4_2 m4_3 m4_4 m4_5 m4_6 m4_7 m4_8 m4_9:Int) (m63:List Int) (m6 m6_1 m6_2 m6_3 m6_4 m6_5 m6_6 m6_7 m6_8 m6_9 m6_10:Int) (s0:List Int) : Option R32_pai10rzi_biiooww :=
 Option.bind (f34_ai10rz k m4 m4_1 m4_2 m4_3 m4_4 m4_5 m4_6 m4_7 m4_8 m4_9 m63) fun o1 =>
  match o1 with
  | .o0 v4 =>
   cond (v4)
    (
     Option.bind (f37_ai10rz k m4 m4_1 m4_2 m4_3 m4_4 m4_5 m4_6 m4_7 m4_8 m4_9 m63) fun o6 =>
      match o6 with
      | .o0 v9 v10 =>
       Option.bind (f42_oF55p_wbii k e2 v9 v10) fun o11 =>
        match o11 with
        | .o0 v14 v15 v16 =>
         Option.bind (f54_pai10rz_biiooww k m4 m4_1 m4_2 m4_3 m4_4 m4_5 m4_6 m4_7 m4_8 m4_9 m63 e0 e0_1 e1 v14) fun o17 =>
          match o17 with
          | .o0 v20 v21 v22 v23 =>
           some (R32_pai10rzi_biiooww.o3 9 m4 m4_1 m4_2 m4_3 m4_4 m4_5 m4_6 m4_7 m4_8 m4_9 m63 v20 v21 v22 v23)
          | .o1 v24 v25 v26 v27 v28 v29 =>
           some (R32_pai10rzi_biiooww.o4 9 m4 m4_1 m4_2 m4_3 m4_4 m4_5 m4_6 m4_7 m4_8 m4_9 m63 v24 v25 v26 v27 v28 v29)
        | .o1 v30 v31 v32 v33 v34 =>
         Option.bind (f54_pai10rz_biiocww k m4 m4_1 m4_2 m4_3 m4_4 m4_5 m4_6 m4_7 m4_8 m4_9 m63 e0 e0_1 v30 v31 e1 v32) fun o35 =>
          match o35 with
          | .o0 v38 v39 v40 v41 v42 v43 =>
           some (R32_pai10rzi_biiooww.o5 9 m4 m4_1 m4_2 m4_3 m4_4 m4_5 m4_6 m4_7 m4_8 m4_9 m63 v38 v39 v40 v41 v42 v43)
          | .o1 v44 v45 v46 v47 v48 v49 v50 v51 =>
           some (R32_pai10rzi_biiooww.o6 9 m4 m4_1 m4_2 m4_3 m4_4 m4_5 m4_6 m4_7 m4_8 m4_9 m63 v44 v45 v46 v47 v48 v49 v50 v51))
    (f32_pai10rzi_biiooww_j3 k false e0 e0_1 e1 e2 m4 m4_1 m4_2 m4_3 m4_4 m4_5 m4_6 m4_7 m4_8 m4_9 m63 m6 m6_1 m6_2 m6_3 m6_4 m6_5 m6_6 m6_7 m6_8 m6_9 m6_10 s0)
theorem f32_pai10rzi_biiooww_j2_ok (k:Nat) (x71:Bool) (e0 e0_1:Int) (e1:List T65) (e2:List T39) (m4 m4_1 m4_2 m4_3 m4_4 m4_5 m4_6 m4_7 m4_8 m4_9:Int) (m63:List Int) (m6 m6_1 m6_2 m6_3 m6_4 m6_5 m6_6 m6_7 m6_8 m6_9 m6_10:Int) (s0:List Int) (r:R32_pai10rzi_biiooww) (hF:f32_pai10rzi_biiooww_j2 k x71 e0 e0_1 e1 e2 m4 m4_1 m4_2 m4_3 m4_4 m4_5 m4_6 m4_7 m4_8 m4_9 m63 m6 m6_1 m6_2 m6_3 m6_4 m6_5 m6_6 m6_7 m6_8 m6_9 m6_10 s0 = some r) : finK Try.prog Try.f32 3 (EX 32 k (nav B32 [2,2,2,2,2]) (⟨158,[(0,.ptr 1000000 0),(4,.ptr 4 0),(6,.ptr 6 0),(7,V.p (Value.func (Fn.func 51) #[] #[])),(71,.p (.bool x71))],[(1000000,.box 26 [.p (.int .i64 e0),.p (.int .u32 e0_1),.own 1000001,.own 1000002]),(1000001,.row true 4 65 (rowsOf encT65 e1)),(1000002,.row true 11 39 (rowsOf encT39 e2)),(4,.box 39 [.p (.int .i64 m4),.p (.int .i64 m4_1),.p (.int .u32 m4_2),.p (.int .i64 m4_3),.p (.int .i64 m4_4),.p (.int .i64 m4_5),.p (.int .i64 m4_6),.p (.int .i64 m4_7),.p (.int .i64 m4_8),.p (.int .i64 m4_9),.own 63]),(63,.row true 1 5 (rowsOf (encI .u8) m63)),(6,.box 48 [.p (.int .i64 m6),.p (.int .i64 m6_1),.p (.int .i64 m6_2),.p (.int .u32 m6_3),.p (.int .i64 m6_4),.p (.int .i64 m6_5),.p (.int .i64 m6_6),.p (.int .i64 m6_7),.p (.int .i64 m6_8),.p (.int .i64 m6_9),.p (.int .i64 m6_10),.own 700000]),(700000,.row true 1 5 (rowsOf (encI .u8) s0))]⟩ : St)) = some r.st := by
 unfold f32_pai10rzi_biiooww_j2 at hF
 obtain ⟨o1,h2,hF⟩ := bs hF
 have hc3 := f34_ai10rz_ok k m4 m4_1 m4_2 m4_3 m4_4 m4_5 m4_6 m4_7 m4_8 m4_9 m63 _ h2
 cases o1 with
 | o0 v4 =>
  (try dsimp only at hF)
  (try simp only [NM,EE,R34_ai10rz.st] at hc3)
  simp (maxSteps:=999999) (disch:=first|exact D (by decide)|exact K (by kernel_rfl)) only [E,EE,↓reduceIte,simprocAttr,xk B32 [2,2,2,2,2] .sq rfl,xk B32 [1,2,2,2,2,2] .sq rfl,rg B32 [1,1,2,2,2,2,2] 17 false rfl,hr_32_17,t_39,callStep,CL,gv,List.contains,xk B32 [2,1,2,2,2,2,2] (.cd 82) rfl,hc3]
  rcases cond_some hF with ⟨h5,hF⟩ | ⟨h5,hF⟩
  ·obtain ⟨o6,h7,hF⟩ := bs hF
   have hc8 := f37_ai10rz_ok k m4 m4_1 m4_2 m4_3 m4_4 m4_5 m4_6 m4_7 m4_8 m4_9 m63 _ h7
   cases o6 with
   | o0 v9 v10 =>
    (try dsimp only at hF)
    (try simp only [NM,EE,R37_ai10rz.st] at hc8)
    simp (maxSteps:=999999) (disch:=first|exact D (by decide)|exact K (by kernel_rfl)) only [E,EE,↓reduceIte,simprocAttr,xk B32 [2,2,1,2,2,2,2,2] .sq rfl,rg B32 [1,2,2,1,2,2,2,2,2] 18 false rfl,hr_32_18,t_39,callStep,CL,gv,List.contains,t_79,xk B32 [2,2,2,1,2,2,2,2,2] .sq rfl,rg B32 [1,2,2,2,1,2,2,2,2,2] 19 false rfl,hr_32_19,fieldAddrV,t_26,t_24,hc3,h5,hc8]
    obtain ⟨o11,h12,hF⟩ := bs hF
    have hc13 := f42_oF55p_wbii_ok k e2 v9 v10 _ h12
    cases o11 with
    | o0 v14 v15 v16 =>
     (try dsimp only at hF)
     (try simp only [NM,EE,R42_oF55p_wbii.st] at hc13)
     simp (maxSteps:=999999) (disch:=first|exact D (by decide)|exact K (by kernel_rfl)) only [E,EE,↓reduceIte,simprocAttr,fieldAddrV,t_26,t_24,xk B32 [2,2,2,2,1,2,2,2,2,2] .sq rfl,rg B32 [1,2,2,2,2,1,2,2,2,2,2] 20 false rfl,hr_32_20,t_39,callStep,CL,gv,List.contains,hc3,h5,hc8,hc13]
     obtain ⟨o17,h18,hF⟩ := bs hF
     have hc19 := f54_pai10rz_biiooww_ok k m4 m4_1 m4_2 m4_3 m4_4 m4_5 m4_6 m4_7 m4_8 m4_9 m63 e0 e0_1 e1 v14 _ h18
     cases o17 with
     | o0 v20 v21 v22 v23 =>
      (try dsimp only at hF)
      (try simp only [NM,EE,R54_pai10rz_biiooww.st] at hc19)
      cases hF
      simp (maxSteps:=999999) (disch:=first|exact D (by decide)|exact K (by kernel_rfl)) only [E,EE,↓reduceIte,simprocAttr,xk B32 [2,2,2,2,2,1,2,2,2,2,2] .sq rfl,rg B32 [1,2,2,2,2,2,1,2,2,2,2,2] 21 false rfl,hr_32_21,t_39,bl_48,t_48,xk B32 [2,2,2,2,2,2,1,2,2,2,2,2] .rt rfl,finK_norm,finK_ret,fin32,R32_pai10rzi_biiooww.st,hc3,h5,hc8,hc13,hc19]
     | o1 v24 v25 v26 v27 v28 v29 =>
      (try dsimp only at hF)
      (try simp only [NM,EE,R54_pai10rz_biiooww.st] at hc19)
      cases hF
      simp (maxSteps:=999999) (disch:=first|exact D (by decide)|exact K (by kernel_rfl)) only [E,EE,↓reduceIte,simprocAttr,xk B32 [2,2,2,2,2,1,2,2,2,2,2] .sq rfl,rg B32 [1,2,2,2,2,2,1,2,2,2,2,2] 21 false rfl,hr_32_21,t_39,bl_48,t_48,xk B32 [2,2,2,2,2,2,1,2,2,2,2,2] .rt rfl,finK_norm,finK_ret,fin32,R32_pai10rzi_biiooww.st,hc3,h5,hc8,hc13,hc19]
    | o1 v30 v31 v32 v33 v34 =>
     (try dsimp only at hF)
     (try simp only [NM,EE,R42_oF55p_wbii.st] at hc13)
     simp (maxSteps:=999999) (disch:=first|exact D (by decide)|exact K (by kernel_rfl)) only [E,EE,↓reduceIte,simprocAttr,fieldAddrV,t_26,t_24,xk B32 [2,2,2,2,1,2,2,2,2,2] .sq rfl,rg B32 [1,2,2,2,2,1,2,2,2,2,2] 20 false rfl,hr_32_20,t_39,callStep,CL,gv,List.contains,hc3,h5,hc8,hc13]
     obtain ⟨o35,h36,hF⟩ := bs hF
     have hc37 := f54_pai10rz_biiocww_ok k m4 m4_1 m4_2 m4_3 m4_4 m4_5 m4_6 m4_7 m4_8 m4_9 m63 e0 e0_1 v30 v31 e1 v32 _ h36
     cases o35 with
     | o0 v38 v39 v40 v41 v42 v43 =>
      (try dsimp only at hF)
      (try simp only [NM,EE,R54_pai10rz_biiocww.st] at hc37)
      cases hF
      simp (maxSteps:=999999) (disch:=first|exact D (by decide)|exact K (by kernel_rfl)) only [E,EE,↓reduceIte,simprocAttr,xk B32 [2,2,2,2,2,1,2,2,2,2,2] .sq rfl,rg B32 [1,2,2,2,2,2,1,2,2,2,2,2] 21 false rfl,hr_32_21,t_39,bl_48,t_48,xk B32 [2,2,2,2,2,2,1,2,2,2,2,2] .rt rfl,finK_norm,finK_ret,fin32,R32_pai10rzi_biiooww.st,hc3,h5,hc8,hc13,hc37]
     | o1 v44 v45 v46 v47 v48 v49 v50 v51 =>
      (try dsimp only at hF)
      (try simp only [NM,EE,R54_pai10rz_biiocww.st] at hc37)
      cases hF
      simp (maxSteps:=999999) (disch:=first|exact D (by decide)|exact K (by kernel_rfl)) only [E,EE,↓reduceIte,simprocAttr,xk B32 [2,2,2,2,2,1,2,2,2,2,2] .sq rfl,rg B32 [1,2,2,2,2,2,1,2,2,2,2,2] 21 false rfl,hr_32_21,t_39,bl_48,t_48,xk B32 [2,2,2,2,2,2,1,2,2,2,2,2] .rt rfl,finK_norm,finK_ret,fin32,R32_pai10rzi_biiooww.st,hc3,h5,hc8,hc13,hc37]
  ·have hJ := f32_pai10rzi_biiooww_j3_ok k false e0 e0_1 e1 e2 m4 m4_1 m4_2 m4_3 m4_4 m4_5 m4_6 m4_7 m4_8 m4_9 m63 m6 m6_1 m6_2 m6_3 m6_4 m6_5 m6_6 m6_7 m6_8 m6_9 m6_10 s0 _ hF
   simp (maxSteps:=999999) (disch:=first|exact D (by decide)|exact K (by kernel_rfl)) only [E,EE,↓reduceIte,simprocAttr,xk B32 [3,2,1,2,2,2,2,2] .sk rfl,hc3,h5]
   try simp only [NM,EE] at hJ
   exact hJ
noncomputable def f32_pai10rzi_biiooww_j1 (k:Nat) (x44:Bool) (e0 e0_1:Int) (e1:List T65) (e2:List T39) (m4 m4_1 m4_2 m4_3 m4_4 m4_5 m4_6 m4_7 m4_8 m4_9:Int) (m4_10:List Int) (m6 m6_1 m6_2 m6_3 m6_4 m6_5 m6_6 m6_7 m6_8 m6_9 m6_10:Int) (s0:List Int) : Option R32_pai10rzi_biiooww :=
 Option.bind (f49_r k m4_10) fun o1 =>
  match o1 with
  | .o0 v4 =>
   cond ((m4_1 != e0))
    (
     Option.bind (f54_pai10rz_biiooww k m4 m4_1 m4_2 m4_3 m4_4 m4_5 m4_6 m4_7 m4_8 m4_9 v4 e0 e0_1 e1 e2) fun o6 =>
      match o6 with
      | .o0 v9 v10 v11 v12 =>
       some (R32_pai10rzi_biiooww.o1 6 m4 m4_1 m4_2 m4_3 m4_4 m4_5 (IntKind.i64.wrap (m4_6 + (1:Int))) m4_7 m4_8 m4_9 v9 v10 v11 v4 v12)
      | .o1 v13 v14 v15 v16 v17 v18 =>
       some (R32_pai10rzi_biiooww.o2 6 m4 m4_1 m4_2 m4_3 m4_4 m4_5 (IntKind.i64.wrap (m4_6 + (1:Int))) m4_7 m4_8 m4_9 v13 v14 v15 v16 v17 v4 v18))
    (f32_pai10rzi_biiooww_j2 k false e0 e0_1 e1 e2 m4 m4_1 m4_2 m4_3 m4_4 m4_5 m4_6 m4_7 m4_8 m4_9 v4 m6 m6_1 m6_2 m6_3 m6_4 m6_5 m6_6 m6_7 m6_8 m6_9 m6_10 s0)
theorem f32_pai10rzi_biiooww_j1_ok (k:Nat) (x44:Bool) (e0 e0_1:Int) (e1:List T65) (e2:List T39) (m4 m4_1 m4_2 m4_3 m4_4 m4_5 m4_6 m4_7 m4_8 m4_9:Int) (m4_10:List Int) (m6 m6_1 m6_2 m6_3 m6_4 m6_5 m6_6 m6_7 m6_8 m6_9 m6_10:Int) (s0:List Int) (r:R32_pai10rzi_biiooww) (hF:f32_pai10rzi_biiooww_j1 k x44 e0 e0_1 e1 e2 m4 m4_1 m4_2 m4_3 m4_4 m4_5 m4_6 m4_7 m4_8 m4_9 m4_10 m6 m6_1 m6_2 m6_3 m6_4 m6_5 m6_6 m6_7 m6_8 m6_9 m6_10 s0 = some r) : finK Try.prog Try.f32 3 (EX 32 k (nav B32 [2,2,2]) (⟨158,[(0,.ptr 1000000 0),(4,.ptr 4 0),(6,.ptr 6 0),(7,V.p (Value.func (Fn.func 51) #[] #[])),(44,.p (.bool x44))],[(1000000,.box 26 [.p (.int .i64 e0),.p (.int .u32 e0_1),.own 1000001,.own 1000002]),(1000001,.row true 4 65 (rowsOf encT65 e1)),(1000002,.row true 11 39 (rowsOf encT39 e2)),(4,.box 39 [.p (.int .i64 m4),.p (.int .i64 m4_1),.p (.int .u32 m4_2),.p (.int .i64 m4_3),.p (.int .i64 m4_4),.p (.int .i64 m4_5),.p (.int .i64 m4_6),.p (.int .i64 m4_7),.p (.int .i64 m4_8),.p (.int .i64 m4_9),.sl 1 (rowsOf (encI .u8) m4_10)]),(6,.box 48 [.p (.int .i64 m6),.p (.int .i64 m6_1),.p (.int .i64 m6_2),.p (.int .u32 m6_3),.p (.int .i64 m6_4),.p (.int .i64 m6_5),.p (.int .i64 m6_6),.p (.int .i64 m6_7),.p (.int .i64 m6_8),.p (.int .i64 m6_9),.p (.int .i64 m6_10),.own 700000]),(700000,.row true 1 5 (rowsOf (encI .u8) s0))]⟩ : St)) = some r.st := by
 unfold f32_pai10rzi_biiooww_j1 at hF
 obtain ⟨o1,h2,hF⟩ := bs hF
 have hc3 := f49_r_ok k m4_10 _ h2
 cases o1 with
 | o0 v4 =>
  (try dsimp only at hF)
  (try simp only [NM,EE,R49_r.st] at hc3)
  simp (maxSteps:=999999) (disch:=first|exact D (by decide)|exact K (by kernel_rfl)) only [E,EE,↓reduceIte,simprocAttr,xk B32 [2,2,2] .sq rfl,rg B32 [1,2,2,2] 12 false rfl,hr_32_12,fieldAddrV,t_39,t_29,callStep,CL,gv,List.contains,xk B32 [2,2,2,2] .sq rfl,xk B32 [1,2,2,2,2] .sq rfl,rg B32 [1,1,2,2,2,2] 13 true rfl,hr_32_13,t_3,t_26,xk B32 [2,1,2,2,2,2] (.cd 71) rfl,hc3]
  rcases cond_some hF with ⟨h5,hF⟩ | ⟨h5,hF⟩
  ·simp (maxSteps:=999999) (disch:=first|exact D (by decide)|exact K (by kernel_rfl)) only [E,EE,↓reduceIte,simprocAttr,xk B32 [2,2,1,2,2,2,2] .sq rfl,rg B32 [1,2,2,1,2,2,2,2] 14 false rfl,hr_32_14,t_39,callStep,CL,gv,List.contains,hc3,h5]
   obtain ⟨o6,h7,hF⟩ := bs hF
   have hc8 := f54_pai10rz_biiooww_ok k m4 m4_1 m4_2 m4_3 m4_4 m4_5 m4_6 m4_7 m4_8 m4_9 v4 e0 e0_1 e1 e2 _ h7
   cases o6 with
   | o0 v9 v10 v11 v12 =>
    (try dsimp only at hF)
    (try simp only [NM,EE,R54_pai10rz_biiooww.st] at hc8)
    cases hF
    simp (maxSteps:=999999) (disch:=first|exact D (by decide)|exact K (by kernel_rfl)) only [E,EE,↓reduceIte,simprocAttr,xk B32 [2,2,2,1,2,2,2,2] .sq rfl,rg B32 [1,2,2,2,1,2,2,2,2] 15 false rfl,hr_32_15,fieldAddrV,t_39,t_3,xk B32 [2,2,2,2,1,2,2,2,2] .sq rfl,rg B32 [1,2,2,2,2,1,2,2,2,2] 16 false rfl,hr_32_16,bl_48,t_48,xk B32 [2,2,2,2,2,1,2,2,2,2] .rt rfl,finK_norm,finK_ret,fin32,R32_pai10rzi_biiooww.st,hc3,h5,hc8]
   | o1 v13 v14 v15 v16 v17 v18 =>
    (try dsimp only at hF)
    (try simp only [NM,EE,R54_pai10rz_biiooww.st] at hc8)
    cases hF
    simp (maxSteps:=999999) (disch:=first|exact D (by decide)|exact K (by kernel_rfl)) only [E,EE,↓reduceIte,simprocAttr,xk B32 [2,2,2,1,2,2,2,2] .sq rfl,rg B32 [1,2,2,2,1,2,2,2,2] 15 false rfl,hr_32_15,fieldAddrV,t_39,t_3,xk B32 [2,2,2,2,1,2,2,2,2] .sq rfl,rg B32 [1,2,2,2,2,1,2,2,2,2] 16 false rfl,hr_32_16,bl_48,t_48,xk B32 [2,2,2,2,2,1,2,2,2,2] .rt rfl,finK_norm,finK_ret,fin32,R32_pai10rzi_biiooww.st,hc3,h5,hc8]
  ·have hJ := f32_pai10rzi_biiooww_j2_ok k false e0 e0_1 e1 e2 m4 m4_1 m4_2 m4_3 m4_4 m4_5 m4_6 m4_7 m4_8 m4_9 v4 m6 m6_1 m6_2 m6_3 m6_4 m6_5 m6_6 m6_7 m6_8 m6_9 m6_10 s0 _ hF
   simp (maxSteps:=999999) (disch:=first|exact D (by decide)|exact K (by kernel_rfl)) only [E,EE,↓reduceIte,simprocAttr,xk B32 [3,2,1,2,2,2,2] .sk rfl,hc3,h5]
   try simp only [NM,EE] at hJ
   exact hJ
noncomputable def f32_pai10rzi_biiooww_e (k:Nat) (a1 a1_1 a1_2 a1_3 a1_4 a1_5 a1_6 a1_7 a1_8 a1_9:Int) (a1_10:List Int) (a2 e0 e0_1:Int) (e1:List T65) (e2:List T39) : Option R32_pai10rzi_biiooww :=
 Option.bind (f24_ai10rz k a1 a1_1 a1_2 a1_3 a1_4 a1_5 a1_6 a1_7 a1_8 a1_9 a1_10) fun o1 =>
  match o1 with
  | .o0 v4 =>
   cond ((v4 != 0))
    (
     Option.bind (f51_i k 1) fun o6 =>
      match o6 with
      | .o0 v9 v10 v11 v12 v13 v14 v15 v16 v17 v18 v19 v20 =>
       some (R32_pai10rzi_biiooww.o0 v9 v10 v11 v12 v13 v14 v15 v16 v17 v18 v19 v20 e0 e0_1 e1 e2))
    (
     Option.bind (f44_ai10rzi k a1 a1_1 a1_2 a1_3 a1_4 a1_5 a1_6 a1_7 a1_8 a1_9 a1_10 a2) fun o21 =>
      match o21 with
      | .o0 v24 =>
       cond (v24)
        (
         Option.bind (f51_i k 2) fun o26 =>
          match o26 with
          | .o0 v29 v30 v31 v32 v33 v34 v35 v36 v37 v38 v39 v40 =>
           some (R32_pai10rzi_biiooww.o0 v29 v30 v31 v32 v33 v34 v35 v36 v37 v38 v39 v40 e0 e0_1 e1 e2))
        (
         Option.bind (f53_ai10rz k a1 a1_1 a1_2 a1_3 a1_4 a1_5 a1_6 a1_7 a1_8 a1_9 a1_10) fun o41 =>
          match o41 with
          | .o0 v44 v45 v46 v47 =>
           Option.bind (f52_rai4z k e1 v44 v45 v46 v47) fun o48 =>
            match o48 with
            | .o0 v51 =>
             cond (v51)
              (
               Option.bind (f51_i k 3) fun o53 =>
                match o53 with
                | .o0 v56 v57 v58 v59 v60 v61 v62 v63 v64 v65 v66 v67 =>
                 some (R32_pai10rzi_biiooww.o0 v56 v57 v58 v59 v60 v61 v62 v63 v64 v65 v66 v67 e0 e0_1 e1 e2))
              (
               cond ((a1 == e0))
                (
                 Option.bind (f51_i k 4) fun o69 =>
                  match o69 with
                  | .o0 v72 v73 v74 v75 v76 v77 v78 v79 v80 v81 v82 v83 =>
                   some (R32_pai10rzi_biiooww.o0 v72 v73 v74 v75 v76 v77 v78 v79 v80 v81 v82 v83 e0 e0_1 e1 e2))
                (
                 cond ((a1_1 != e0))
                  (
                   cond ((a1_6 == a1_5))
                    (
                     Option.bind (f51_i k 5) fun o86 =>
                      match o86 with
                      | .o0 v89 v90 v91 v92 v93 v94 v95 v96 v97 v98 v99 v100 =>
                       some (R32_pai10rzi_biiooww.o0 v89 v90 v91 v92 v93 v94 v95 v96 v97 v98 v99 v100 e0 e0_1 e1 e2))
                    (f32_pai10rzi_biiooww_j1 k false e0 e0_1 e1 e2 a1 a1_1 a1_2 a1_3 a1_4 a1_5 a1_6 a1_7 a1_8 a1_9 a1_10 0 0 0 0 0 0 0 0 0 0 0 []))
                  (f32_pai10rzi_biiooww_j1 k false e0 e0_1 e1 e2 a1 a1_1 a1_2 a1_3 a1_4 a1_5 a1_6 a1_7 a1_8 a1_9 a1_10 0 0 0 0 0 0 0 0 0 0 0 [])))))
theorem f32_pai10rzi_biiooww_e_ok (k:Nat) (a1 a1_1 a1_2 a1_3 a1_4 a1_5 a1_6 a1_7 a1_8 a1_9:Int) (a1_10:List Int) (a2 e0 e0_1:Int) (e1:List T65) (e2:List T39) (r:R32_pai10rzi_biiooww) (hF:f32_pai10rzi_biiooww_e k a1 a1_1 a1_2 a1_3 a1_4 a1_5 a1_6 a1_7 a1_8 a1_9 a1_10 a2 e0 e0_1 e1 e2 = some r) : finK Try.prog Try.f32 3 (EX 32 k (nav B32 []) (⟨158,[(0,.ptr 1000000 0),(1,.agg [.p (.int .i64 a1),.p (.int .i64 a1_1),.p (.int .u32 a1_2),.p (.int .i64 a1_3),.p (.int .i64 a1_4),.p (.int .i64 a1_5),.p (.int .i64 a1_6),.p (.int .i64 a1_7),.p (.int .i64 a1_8),.p (.int .i64 a1_9),.sl 1 (rowsOf (encI .u8) a1_10)]),(2,.p (.int .i64 a2))],[(1000000,.box 26 [.p (.int .i64 e0),.p (.int .u32 e0_1),.own 1000001,.own 1000002]),(1000001,.row true 4 65 (rowsOf encT65 e1)),(1000002,.row true 11 39 (rowsOf encT39 e2))]⟩ : St)) = some r.st := by
 unfold f32_pai10rzi_biiooww_e at hF
 obtain ⟨o1,h2,hF⟩ := bs hF
 have hc3 := f24_ai10rz_ok k a1 a1_1 a1_2 a1_3 a1_4 a1_5 a1_6 a1_7 a1_8 a1_9 a1_10 _ h2
 cases o1 with
 | o0 v4 =>
  (try dsimp only at hF)
  (try simp only [NM,EE,R24_ai10rz.st] at hc3)
  simp (maxSteps:=999999) (disch:=first|exact D (by decide)|exact K (by kernel_rfl)) only [E,EE,↓reduceIte,simprocAttr,xk B32 [] .sq rfl,rg B32 [1] 0 false rfl,hr_32_0,t_48,xk B32 [2] .sq rfl,rg B32 [1,2] 1 false rfl,hr_32_1,xk B32 [2,2] .sq rfl,xk B32 [1,2,2] (.bk 0) rfl,xk B32 [2,1,2,2] .sq rfl,rg B32 [1,2,1,2,2] 2 false rfl,hr_32_2,t_39,callStep,CL,gv,List.contains,xk B32 [2,2,1,2,2] (.cd 12) rfl,hc3]
  rcases cond_some hF with ⟨h5,hF⟩ | ⟨h5,hF⟩
  ·obtain ⟨o6,h7,hF⟩ := bs hF
   have hc8 := f51_i_ok k 1 _ h7
   cases o6 with
   | o0 v9 v10 v11 v12 v13 v14 v15 v16 v17 v18 v19 v20 =>
    (try dsimp only at hF)
    (try simp only [NM,EE,R51_i.st] at hc8)
    cases hF
    simp (maxSteps:=999999) (disch:=first|exact D (by decide)|exact K (by kernel_rfl)) only [E,EE,↓reduceIte,simprocAttr,xk B32 [2,2,2,1,2,2] .sq rfl,rg B32 [1,2,2,2,1,2,2] 3 false rfl,hr_32_3,callStep,CL,gv,List.contains,t_48,xk B32 [2,2,2,2,1,2,2] .rt rfl,finK_norm,finK_ret,fin32,R32_pai10rzi_biiooww.st,hc3,h5,hc8]
  ·obtain ⟨o21,h22,hF⟩ := bs hF
   have hc23 := f44_ai10rzi_ok k a1 a1_1 a1_2 a1_3 a1_4 a1_5 a1_6 a1_7 a1_8 a1_9 a1_10 a2 _ h22
   cases o21 with
   | o0 v24 =>
    (try dsimp only at hF)
    (try simp only [NM,EE,R44_ai10rzi.st] at hc23)
    simp (maxSteps:=999999) (disch:=first|exact D (by decide)|exact K (by kernel_rfl)) only [E,EE,↓reduceIte,simprocAttr,xk B32 [3,2,2,1,2,2] .sq rfl,rg B32 [1,3,2,2,1,2,2] 4 false rfl,hr_32_4,t_39,callStep,CL,gv,List.contains,xk B32 [2,3,2,2,1,2,2] (.cd 18) rfl,hc3,h5,hc23]
    rcases cond_some hF with ⟨h25,hF⟩ | ⟨h25,hF⟩
    ·obtain ⟨o26,h27,hF⟩ := bs hF
     have hc28 := f51_i_ok k 2 _ h27
     cases o26 with
     | o0 v29 v30 v31 v32 v33 v34 v35 v36 v37 v38 v39 v40 =>
      (try dsimp only at hF)
      (try simp only [NM,EE,R51_i.st] at hc28)
      cases hF
      simp (maxSteps:=999999) (disch:=first|exact D (by decide)|exact K (by kernel_rfl)) only [E,EE,↓reduceIte,simprocAttr,xk B32 [2,2,3,2,2,1,2,2] .sq rfl,rg B32 [1,2,2,3,2,2,1,2,2] 5 false rfl,hr_32_5,callStep,CL,gv,List.contains,t_48,xk B32 [2,2,2,3,2,2,1,2,2] .rt rfl,finK_norm,finK_ret,fin32,R32_pai10rzi_biiooww.st,hc3,h5,hc23,h25,hc28]
    ·obtain ⟨o41,h42,hF⟩ := bs hF
     have hc43 := f53_ai10rz_ok k a1 a1_1 a1_2 a1_3 a1_4 a1_5 a1_6 a1_7 a1_8 a1_9 a1_10 _ h42
     cases o41 with
     | o0 v44 v45 v46 v47 =>
      (try dsimp only at hF)
      (try simp only [NM,EE,R53_ai10rz.st] at hc43)
      obtain ⟨o48,h49,hF⟩ := bs hF
      have hc50 := f52_rai4z_ok k e1 v44 v45 v46 v47 _ h49
      cases o48 with
      | o0 v51 =>
       (try dsimp only at hF)
       (try simp only [NM,EE,R52_rai4z.st] at hc50)
       simp (maxSteps:=999999) (disch:=first|exact D (by decide)|exact K (by kernel_rfl)) only [E,EE,↓reduceIte,simprocAttr,xk B32 [3,2,3,2,2,1,2,2] .sq rfl,rg B32 [1,3,2,3,2,2,1,2,2] 6 true rfl,hr_32_6,fieldAddrV,t_26,t_23,t_39,callStep,CL,gv,List.contains,xk B32 [2,3,2,3,2,2,1,2,2] (.cd 24) rfl,hc3,h5,hc23,h25,hc43,hc50]
       rcases cond_some hF with ⟨h52,hF⟩ | ⟨h52,hF⟩
       ·obtain ⟨o53,h54,hF⟩ := bs hF
        have hc55 := f51_i_ok k 3 _ h54
        cases o53 with
        | o0 v56 v57 v58 v59 v60 v61 v62 v63 v64 v65 v66 v67 =>
         (try dsimp only at hF)
         (try simp only [NM,EE,R51_i.st] at hc55)
         cases hF
         simp (maxSteps:=999999) (disch:=first|exact D (by decide)|exact K (by kernel_rfl)) only [E,EE,↓reduceIte,simprocAttr,xk B32 [2,2,3,2,3,2,2,1,2,2] .sq rfl,rg B32 [1,2,2,3,2,3,2,2,1,2,2] 7 false rfl,hr_32_7,callStep,CL,gv,List.contains,t_48,xk B32 [2,2,2,3,2,3,2,2,1,2,2] .rt rfl,finK_norm,finK_ret,fin32,R32_pai10rzi_biiooww.st,hc3,h5,hc23,h25,hc43,hc50,h52,hc55]
       ·simp (maxSteps:=999999) (disch:=first|exact D (by decide)|exact K (by kernel_rfl)) only [E,EE,↓reduceIte,simprocAttr,xk B32 [3,2,3,2,3,2,2,1,2,2] .sq rfl,rg B32 [1,3,2,3,2,3,2,2,1,2,2] 8 true rfl,hr_32_8,fieldAddrV,t_39,t_3,t_26,xk B32 [2,3,2,3,2,3,2,2,1,2,2] (.cd 34) rfl,hc3,h5,hc23,h25,hc43,hc50,h52]
        rcases cond_some hF with ⟨h68,hF⟩ | ⟨h68,hF⟩
        ·obtain ⟨o69,h70,hF⟩ := bs hF
         have hc71 := f51_i_ok k 4 _ h70
         cases o69 with
         | o0 v72 v73 v74 v75 v76 v77 v78 v79 v80 v81 v82 v83 =>
          (try dsimp only at hF)
          (try simp only [NM,EE,R51_i.st] at hc71)
          cases hF
          simp (maxSteps:=999999) (disch:=first|exact D (by decide)|exact K (by kernel_rfl)) only [E,EE,↓reduceIte,simprocAttr,xk B32 [2,2,3,2,3,2,3,2,2,1,2,2] .sq rfl,rg B32 [1,2,2,3,2,3,2,3,2,2,1,2,2] 9 false rfl,hr_32_9,callStep,CL,gv,List.contains,t_48,xk B32 [2,2,2,3,2,3,2,3,2,2,1,2,2] .rt rfl,finK_norm,finK_ret,fin32,R32_pai10rzi_biiooww.st,hc3,h5,hc23,h25,hc43,hc50,h52,h68,hc71]
        ·simp (maxSteps:=999999) (disch:=first|exact D (by decide)|exact K (by kernel_rfl)) only [E,EE,↓reduceIte,simprocAttr,xk B32 [3,2,3,2,3,2,3,2,2,1,2,2] .sq rfl,rg B32 [1,3,2,3,2,3,2,3,2,2,1,2,2] 10 true rfl,hr_32_10,fieldAddrV,t_39,t_3,t_26,hc3,h5,hc23,h25,hc43,hc50,h52,h68]
         rcases cond_some hF with ⟨h84,hF⟩ | ⟨h84,hF⟩
         ·simp (maxSteps:=999999) (disch:=first|exact D (by decide)|exact K (by kernel_rfl)) only [E,EE,↓reduceIte,simprocAttr,fieldAddrV,t_39,t_3,xk B32 [2,3,2,3,2,3,2,3,2,2,1,2,2] (.cd 44) rfl,hc3,h5,hc23,h25,hc43,hc50,h52,h68,h84]
          rcases cond_some hF with ⟨h85,hF⟩ | ⟨h85,hF⟩
          ·obtain ⟨o86,h87,hF⟩ := bs hF
           have hc88 := f51_i_ok k 5 _ h87
           cases o86 with
           | o0 v89 v90 v91 v92 v93 v94 v95 v96 v97 v98 v99 v100 =>
            (try dsimp only at hF)
            (try simp only [NM,EE,R51_i.st] at hc88)
            cases hF
            simp (maxSteps:=999999) (disch:=first|exact D (by decide)|exact K (by kernel_rfl)) only [E,EE,↓reduceIte,simprocAttr,xk B32 [2,2,3,2,3,2,3,2,3,2,2,1,2,2] .sq rfl,rg B32 [1,2,2,3,2,3,2,3,2,3,2,2,1,2,2] 11 false rfl,hr_32_11,callStep,CL,gv,List.contains,t_48,xk B32 [2,2,2,3,2,3,2,3,2,3,2,2,1,2,2] .rt rfl,finK_norm,finK_ret,fin32,R32_pai10rzi_biiooww.st,hc3,h5,hc23,h25,hc43,hc50,h52,h68,h84,h85,hc88]
          ·have hJ := f32_pai10rzi_biiooww_j1_ok k false e0 e0_1 e1 e2 a1 a1_1 a1_2 a1_3 a1_4 a1_5 a1_6 a1_7 a1_8 a1_9 a1_10 0 0 0 0 0 0 0 0 0 0 0 [] _ hF
           simp (maxSteps:=999999) (disch:=first|exact D (by decide)|exact K (by kernel_rfl)) only [E,EE,↓reduceIte,simprocAttr,xk B32 [3,2,3,2,3,2,3,2,3,2,2,1,2,2] .sk rfl,hc3,h5,hc23,h25,hc43,hc50,h52,h68,h84,h85]
           try simp only [NM,EE] at hJ
           exact hJ
         ·have hJ := f32_pai10rzi_biiooww_j1_ok k false e0 e0_1 e1 e2 a1 a1_1 a1_2 a1_3 a1_4 a1_5 a1_6 a1_7 a1_8 a1_9 a1_10 0 0 0 0 0 0 0 0 0 0 0 [] _ hF
          simp (maxSteps:=999999) (disch:=first|exact D (by decide)|exact K (by kernel_rfl)) only [E,EE,↓reduceIte,simprocAttr,xk B32 [2,3,2,3,2,3,2,3,2,2,1,2,2] (.cd 44) rfl,xk B32 [3,2,3,2,3,2,3,2,3,2,2,1,2,2] .sk rfl,hc3,h5,hc23,h25,hc43,hc50,h52,h68,h84]
          try simp only [NM,EE] at hJ
          exact hJ
noncomputable def f32_pai10rzi_biiooww (k:Nat) (a1 a1_1 a1_2 a1_3 a1_4 a1_5 a1_6 a1_7 a1_8 a1_9:Int) (a1_10:List Int) (a2 e0 e0_1:Int) (e1:List T65) (e2:List T39) : Option R32_pai10rzi_biiooww := match k with | 0 => none | k + 1 => f32_pai10rzi_biiooww_e k a1 a1_1 a1_2 a1_3 a1_4 a1_5 a1_6 a1_7 a1_8 a1_9 a1_10 a2 e0 e0_1 e1 e2
theorem f32_pai10rzi_biiooww_ok (k:Nat) (a1 a1_1 a1_2 a1_3 a1_4 a1_5 a1_6 a1_7 a1_8 a1_9:Int) (a1_10:List Int) (a2 e0 e0_1:Int) (e1:List T65) (e2:List T39) (r:R32_pai10rzi_biiooww) (hF:f32_pai10rzi_biiooww k a1 a1_1 a1_2 a1_3 a1_4 a1_5 a1_6 a1_7 a1_8 a1_9 a1_10 a2 e0 e0_1 e1 e2 = some r) : CV k 32 [.ptr 1000000 0,.agg [.p (.int .i64 a1),.p (.int .i64 a1_1),.p (.int .u32 a1_2),.p (.int .i64 a1_3),.p (.int .i64 a1_4),.p (.int .i64 a1_5),.p (.int .i64 a1_6),.p (.int .i64 a1_7),.p (.int .i64 a1_8),.p (.int .i64 a1_9),.sl 1 (rowsOf (encI .u8) a1_10)],.p (.int .i64 a2)] [.box 26 [.p (.int .i64 e0),.p (.int .u32 e0_1),.own 1000001,.own 1000002],.row true 4 65 (rowsOf encT65 e1),.row true 11 39 (rowsOf encT39 e2)] = some r.st := by
 cases k with
 | zero => cases hF
 | succ k =>
  unfold CV
  rw [ev_call (F := Try.f32) (c := (nav B32 [])) rfl Try.func32 rfl rfl rfl rfl]
  exact f32_pai10rzi_biiooww_e_ok k a1 a1_1 a1_2 a1_3 a1_4 a1_5 a1_6 a1_7 a1_8 a1_9 a1_10 a2 e0 e0_1 e1 e2 r hF
end Go.Proofs.YticggdfaehneeaaV