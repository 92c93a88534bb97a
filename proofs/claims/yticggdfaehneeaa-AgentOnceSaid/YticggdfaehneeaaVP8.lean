/- What the program's functions answer: plain functions,and that the interpreter answers what they do. Written by a program of this session,out of the translation. -/
import Derived.Test.YticggdfaehneeaaVP7
namespace Go.Proofs.YticggdfaehneeaaV
open Go
set_option linter.unusedVariables false
set_option linter.unusedSimpArgs false
set_option maxRecDepth 8000
set_option maxHeartbeats 4000000
-- f54_pai10rz_biiocww: f54 heliograph/agent.remember
inductive R54_pai10rz_biiocww where
 | o0 (y y_1:Int) (y_2 y_3:Nat) (y_4:List T39) (y_5:List T65)
 | o1 (y y_1:Int) (y_2 y_3 y_4 y_5:Nat) (y_6:List T39) (y_7:List T65)
noncomputable def R54_pai10rz_biiocww.st : R54_pai10rz_biiocww → V × List O × List O
 | .o0 y y_1 y_2 y_3 y_4 y_5 => (V.tup [],[.box 26 [.p (.int .i64 y),.p (.int .u32 y_1),.own 2000000,V.cut 1000002 11 y_2 y_3],.dead,.row true 11 39 (rowsOf encT39 y_4)],[.row true 4 65 (rowsOf encT65 y_5)])
 | .o1 y y_1 y_2 y_3 y_4 y_5 y_6 y_7 => (V.tup [],[.box 26 [.p (.int .i64 y),.p (.int .u32 y_1),V.cut 2000000 4 y_2 y_3,V.cut 1000002 11 y_4 y_5],.dead,.row true 11 39 (rowsOf encT39 y_6)],[.row true 4 65 (rowsOf encT65 y_7)])
noncomputable def f54_pai10rz_biiocww_e (k:Nat) (a1 a1_1 a1_2 a1_3 a1_4 a1_5 a1_6 a1_7 a1_8 a1_9:Int) (a1_10:List Int) (e0 e0_1:Int) (e0_2 e0_3:Nat) (e1:List T65) (e2:List T39) : Option R54_pai10rz_biiocww :=
 Option.bind (f53_ai10rz k a1 a1_1 a1_2 a1_3 a1_4 a1_5 a1_6 a1_7 a1_8 a1_9 a1_10) fun o1 =>
  match o1 with
  | .o0 v4 v5 v6 v7 =>
   ifE (((List.length e1) + 1) * 32 ≤ roomy) (
    cond ((decide ((IntKind.i64.wrap (((List.length (e1 ++ ([(T65.mk v4 v5 v6 v7)] : List T65))) : Int) - (64:Int))) > 0)))
     (
      Option.bind (f64_oii_w k 0 ((IntKind.i64.wrap (((List.length (e1 ++ ([(T65.mk v4 v5 v6 v7)] : List T65))) : Int) - (64:Int)))) (e1 ++ ([(T65.mk v4 v5 v6 v7)] : List T65))) fun o12 =>
       match o12 with
       | .o0 v15 =>
        some (R54_pai10rz_biiocww.o0 e0 e0_1 e0_2 e0_3 e2 v15)
       | .o1 v16 v17 v18 =>
        some (R54_pai10rz_biiocww.o1 e0 e0_1 v16 v17 e0_2 e0_3 e2 v18))
     (some (R54_pai10rz_biiocww.o0 e0 e0_1 e0_2 e0_3 e2 (e1 ++ ([(T65.mk v4 v5 v6 v7)] : List T65)))))
theorem f54_pai10rz_biiocww_e_ok (k:Nat) (a1 a1_1 a1_2 a1_3 a1_4 a1_5 a1_6 a1_7 a1_8 a1_9:Int) (a1_10:List Int) (e0 e0_1:Int) (e0_2 e0_3:Nat) (e1:List T65) (e2:List T39) (r:R54_pai10rz_biiocww) (hF:f54_pai10rz_biiocww_e k a1 a1_1 a1_2 a1_3 a1_4 a1_5 a1_6 a1_7 a1_8 a1_9 a1_10 e0 e0_1 e0_2 e0_3 e1 e2 = some r) : finK Try.prog Try.f54 3 (EX 54 k (nav B54 []) (⟨33,[(0,.ptr 1000000 0),(1,.agg [.p (.int .i64 a1),.p (.int .i64 a1_1),.p (.int .u32 a1_2),.p (.int .i64 a1_3),.p (.int .i64 a1_4),.p (.int .i64 a1_5),.p (.int .i64 a1_6),.p (.int .i64 a1_7),.p (.int .i64 a1_8),.p (.int .i64 a1_9),.sl 1 (rowsOf (encI .u8) a1_10)])],[(1000000,.box 26 [.p (.int .i64 e0),.p (.int .u32 e0_1),.own 1000001,V.cut 1000002 11 e0_2 e0_3]),(1000001,.row true 4 65 (rowsOf encT65 e1)),(1000002,.row true 11 39 (rowsOf encT39 e2))]⟩ : St)) = some r.st := by
 unfold f54_pai10rz_biiocww_e at hF
 obtain ⟨o1,h2,hF⟩ := bs hF
 have hc3 := f53_ai10rz_ok k a1 a1_1 a1_2 a1_3 a1_4 a1_5 a1_6 a1_7 a1_8 a1_9 a1_10 _ h2
 cases o1 with
 | o0 v4 v5 v6 v7 =>
  (try dsimp only at hF)
  (try simp only [NM,EE,R53_ai10rz.st] at hc3)
  have q8 : [[.p (.int .i64 v4),.p (.int .u32 v5),.p (.int .i64 v6),.p (.int .i64 v7)]] = rowsOf encT65 ([(T65.mk v4 v5 v6 v7)] : List T65) := rfl
  have q9 : List.map (tell [0,0,0,0]) (rowsOf encT65 ([(T65.mk v4 v5 v6 v7)] : List T65)) = rowsOf encT65 ([(T65.mk v4 v5 v6 v7)] : List T65) := rfl
  obtain ⟨h10,hF⟩ := ifE_some.1 hF
  simp (maxSteps:=999999) (disch:=first|exact D (by decide)|exact K (by kernel_rfl)) only [E,EE,↓reduceIte,simprocAttr,xk B54 [] .sq rfl,rg B54 [1] 0 false rfl,hr_54_0,xk B54 [2] .sq rfl,rg B54 [1,2] 1 true rfl,hr_54_1,fieldAddrV,t_26,t_23,t_39,callStep,CL,gv,List.contains,buildSliceV,fillRows,sm_65,t_65,appendV,content,xk B54 [2,2] .sq rfl,rg B54 [1,2,2] 2 false rfl,hr_54_2,xk B54 [2,2,2] .sq rfl,rg B54 [1,2,2,2] 3 false rfl,hr_54_3,xk B54 [2,2,2,2] (.cd 23) rfl,hc3,q8,q9,h10]
  rcases cond_some hF with ⟨h11,hF⟩ | ⟨h11,hF⟩
  ·simp (maxSteps:=999999) (disch:=first|exact D (by decide)|exact K (by kernel_rfl)) only [E,EE,↓reduceIte,simprocAttr,rg B54 [2,2,2,2,2] 4 false rfl,hr_54_4,fieldAddrV,t_26,t_23,callStep,CL,gv,List.contains,hc3,q8,q9,h10,h11]
   obtain ⟨o12,h13,hF⟩ := bs hF
   have hc14 := f64_oii_w_ok k 0 ((IntKind.i64.wrap (((List.length (e1 ++ ([(T65.mk v4 v5 v6 v7)] : List T65))) : Int) - (64:Int)))) (e1 ++ ([(T65.mk v4 v5 v6 v7)] : List T65)) _ h13
   cases o12 with
   | o0 v15 =>
    (try dsimp only at hF)
    (try simp only [NM,EE,R64_oii_w.st] at hc14)
    cases hF
    simp (maxSteps:=999999) (disch:=first|exact D (by decide)|exact K (by kernel_rfl)) only [E,EE,↓reduceIte,simprocAttr,fieldAddrV,t_26,t_23,finK_norm,finK_ret,fin54,R54_pai10rz_biiocww.st,hc3,q8,q9,h10,h11,hc14]
   | o1 v16 v17 v18 =>
    (try dsimp only at hF)
    (try simp only [NM,EE,R64_oii_w.st] at hc14)
    cases hF
    simp (maxSteps:=999999) (disch:=first|exact D (by decide)|exact K (by kernel_rfl)) only [E,EE,↓reduceIte,simprocAttr,fieldAddrV,t_26,t_23,finK_norm,finK_ret,fin54,R54_pai10rz_biiocww.st,hc3,q8,q9,h10,h11,hc14]
  ·cases hF
   simp (maxSteps:=999999) (disch:=first|exact D (by decide)|exact K (by kernel_rfl)) only [E,EE,↓reduceIte,simprocAttr,xk B54 [3,2,2,2,2] .sk rfl,finK_norm,finK_ret,fin54,R54_pai10rz_biiocww.st,hc3,q8,q9,h10,h11]
noncomputable def f54_pai10rz_biiocww (k:Nat) (a1 a1_1 a1_2 a1_3 a1_4 a1_5 a1_6 a1_7 a1_8 a1_9:Int) (a1_10:List Int) (e0 e0_1:Int) (e0_2 e0_3:Nat) (e1:List T65) (e2:List T39) : Option R54_pai10rz_biiocww := match k with | 0 => none | k + 1 => f54_pai10rz_biiocww_e k a1 a1_1 a1_2 a1_3 a1_4 a1_5 a1_6 a1_7 a1_8 a1_9 a1_10 e0 e0_1 e0_2 e0_3 e1 e2
theorem f54_pai10rz_biiocww_ok (k:Nat) (a1 a1_1 a1_2 a1_3 a1_4 a1_5 a1_6 a1_7 a1_8 a1_9:Int) (a1_10:List Int) (e0 e0_1:Int) (e0_2 e0_3:Nat) (e1:List T65) (e2:List T39) (r:R54_pai10rz_biiocww) (hF:f54_pai10rz_biiocww k a1 a1_1 a1_2 a1_3 a1_4 a1_5 a1_6 a1_7 a1_8 a1_9 a1_10 e0 e0_1 e0_2 e0_3 e1 e2 = some r) : CV k 54 [.ptr 1000000 0,.agg [.p (.int .i64 a1),.p (.int .i64 a1_1),.p (.int .u32 a1_2),.p (.int .i64 a1_3),.p (.int .i64 a1_4),.p (.int .i64 a1_5),.p (.int .i64 a1_6),.p (.int .i64 a1_7),.p (.int .i64 a1_8),.p (.int .i64 a1_9),.sl 1 (rowsOf (encI .u8) a1_10)]] [.box 26 [.p (.int .i64 e0),.p (.int .u32 e0_1),.own 1000001,V.cut 1000002 11 e0_2 e0_3],.row true 4 65 (rowsOf encT65 e1),.row true 11 39 (rowsOf encT39 e2)] = some r.st := by
 cases k with
 | zero => cases hF
 | succ k =>
  unfold CV
  rw [ev_call (F := Try.f54) (c := (nav B54 [])) rfl Try.func54 rfl rfl rfl rfl]
  exact f54_pai10rz_biiocww_e_ok k a1 a1_1 a1_2 a1_3 a1_4 a1_5 a1_6 a1_7 a1_8 a1_9 a1_10 e0 e0_1 e0_2 e0_3 e1 e2 r hF
-- f36_aiioozaiiz_ww: f36 heliograph/agent.of
inductive R36_aiioozaiiz_ww where
 | o0 (y:List T65) (y_1 y_2:List T39)
noncomputable def R36_aiioozaiiz_ww.st : R36_aiioozaiiz_ww → V × List O × List O
 | .o0 y y_1 y_2 => (.own 2000000,[.row true 4 65 (rowsOf encT65 y),.row true 11 39 (rowsOf encT39 y_1)],[.row true 11 39 (rowsOf encT39 y_2)])
inductive R36_aiioozaiiz_ww_l1 where
 | o0 (y y_1 y_2 y_3:Int) (y_4 y_5:List T39) (y_6:List T65)
 | o1 (y y_1 y_2 y_3:Int) (y_4 y_5:List T39) (y_6:List T65)
 | o2 (y y_1:Int) (y_2:Bool) (y_3 y_4:Int) (y_5 y_6:List T39) (y_7:List T65)
noncomputable def R36_aiioozaiiz_ww_l1.st : R36_aiioozaiiz_ww_l1 → Out × St
 | .o0 y y_1 y_2 y_3 y_4 y_5 y_6 => (.norm,(⟨25,[(3,.ptr 30000 0),(5,.own 22),(9,.own 1000001),(10,.p (.int .i64 y)),(11,.p (.int .i64 y_1))],[(30000,.box 79 [.p (.int .i64 y_2),.p (.int .u32 y_3)]),(22,.row true 11 39 (rowsOf encT39 y_4)),(1000001,.row true 11 39 (rowsOf encT39 y_5)),(1000000,.row true 4 65 (rowsOf encT65 y_6))]⟩ : St))
 | .o1 y y_1 y_2 y_3 y_4 y_5 y_6 => (.norm,(⟨25,[(3,.ptr 30000 0),(5,.own 30001),(9,.own 1000001),(10,.p (.int .i64 y)),(11,.p (.int .i64 y_1))],[(30000,.box 79 [.p (.int .i64 y_2),.p (.int .u32 y_3)]),(30001,.row true 11 39 (rowsOf encT39 y_4)),(1000001,.row true 11 39 (rowsOf encT39 y_5)),(1000000,.row true 4 65 (rowsOf encT65 y_6))]⟩ : St))
 | .o2 y y_1 y_2 y_3 y_4 y_5 y_6 y_7 => (.exit 0,(⟨25,[(3,.ptr 30000 0),(5,.own 30001),(9,.own 1000001),(10,.p (.int .i64 y)),(11,.p (.int .i64 y_1)),(12,.p (.bool y_2))],[(30000,.box 79 [.p (.int .i64 y_3),.p (.int .u32 y_4)]),(30001,.row true 11 39 (rowsOf encT39 y_5)),(1000001,.row true 11 39 (rowsOf encT39 y_6)),(1000000,.row true 4 65 (rowsOf encT65 y_7))]⟩ : St))
noncomputable def f36_aiioozaiiz_ww_l1_j2 (k:Nat) (x10 x11 h0_ h0__1:Int) (m22 e1:List T39) (e0:List T65) : Option R36_aiioozaiiz_ww_l1 :=
 some (R36_aiioozaiiz_ww_l1.o0 x10 (IntKind.i64.wrap (x11 + (1:Int))) h0_ h0__1 m22 e1 e0)
theorem f36_aiioozaiiz_ww_l1_j2_ok (k:Nat) (x10 x11 h0_ h0__1:Int) (m22 e1:List T39) (e0:List T65) (r:R36_aiioozaiiz_ww_l1) (hF:f36_aiioozaiiz_ww_l1_j2 k x10 x11 h0_ h0__1 m22 e1 e0 = some r) : EX 36 k (nav B36 [2,2,2,1,2,2,1,2,2]) (⟨25,[(3,.ptr 30000 0),(5,.own 22),(9,.own 1000001),(10,.p (.int .i64 x10)),(11,.p (.int .i64 x11))],[(30000,.box 79 [.p (.int .i64 h0_),.p (.int .u32 h0__1)]),(22,.row true 11 39 (rowsOf encT39 m22)),(1000001,.row true 11 39 (rowsOf encT39 e1)),(1000000,.row true 4 65 (rowsOf encT65 e0))]⟩ : St) = some r.st := by
 unfold f36_aiioozaiiz_ww_l1_j2 at hF
 cases hF
 simp (maxSteps:=999999) (disch:=first|exact D (by decide)|exact K (by kernel_rfl)) only [E,EE,↓reduceIte,simprocAttr,rg B36 [2,2,2,1,2,2,1,2,2] 7 false rfl,hr_36_7,R36_aiioozaiiz_ww_l1.st]
noncomputable def f36_aiioozaiiz_ww_l1_j3 (k:Nat) (x10 x11:Int) (x18:Bool) (h0_ h0__1:Int) (h1_:List T39) (m7 m7_1 m7_2 m7_3 m7_4 m7_5 m7_6 m7_7 m7_8 m7_9:Int) (m7_10:List Int) (e1:List T39) (e0:List T65) : Option R36_aiioozaiiz_ww_l1 :=
 some (R36_aiioozaiiz_ww_l1.o1 x10 (IntKind.i64.wrap (x11 + (1:Int))) h0_ h0__1 h1_ e1 e0)
theorem f36_aiioozaiiz_ww_l1_j3_ok (k:Nat) (x10 x11:Int) (x18:Bool) (h0_ h0__1:Int) (h1_:List T39) (m7 m7_1 m7_2 m7_3 m7_4 m7_5 m7_6 m7_7 m7_8 m7_9:Int) (m7_10:List Int) (e1:List T39) (e0:List T65) (r:R36_aiioozaiiz_ww_l1) (hF:f36_aiioozaiiz_ww_l1_j3 k x10 x11 x18 h0_ h0__1 h1_ m7 m7_1 m7_2 m7_3 m7_4 m7_5 m7_6 m7_7 m7_8 m7_9 m7_10 e1 e0 = some r) : EX 36 k (nav B36 [2,2,2,1,2,2,1,2,2]) (⟨25,[(3,.ptr 30000 0),(5,.own 30001),(7,.ptr 7 0),(9,.own 1000001),(10,.p (.int .i64 x10)),(11,.p (.int .i64 x11)),(18,.p (.bool x18))],[(30000,.box 79 [.p (.int .i64 h0_),.p (.int .u32 h0__1)]),(30001,.row true 11 39 (rowsOf encT39 h1_)),(7,.box 39 [.p (.int .i64 m7),.p (.int .i64 m7_1),.p (.int .u32 m7_2),.p (.int .i64 m7_3),.p (.int .i64 m7_4),.p (.int .i64 m7_5),.p (.int .i64 m7_6),.p (.int .i64 m7_7),.p (.int .i64 m7_8),.p (.int .i64 m7_9),.sl 1 (rowsOf (encI .u8) m7_10)]),(1000001,.row true 11 39 (rowsOf encT39 e1)),(1000000,.row true 4 65 (rowsOf encT65 e0))]⟩ : St) = some r.st := by
 unfold f36_aiioozaiiz_ww_l1_j3 at hF
 cases hF
 simp (maxSteps:=999999) (disch:=first|exact D (by decide)|exact K (by kernel_rfl)) only [E,EE,↓reduceIte,simprocAttr,rg B36 [2,2,2,1,2,2,1,2,2] 7 false rfl,hr_36_7,R36_aiioozaiiz_ww_l1.st]
noncomputable def f36_aiioozaiiz_ww_l1_j1 (k:Nat) (x10 x11:Int) (x12:Bool) (h0_ h0__1:Int) (h1_ e1:List T39) (e0:List T65) : Option R36_aiioozaiiz_ww_l1 :=
 ifE ((0:Int) ≤ x11) (
  ifE (x11 < ((List.length e1) : Int)) (
   Option.bind (e1[(Int.toNat x11)]?) fun v3 =>
    Option.bind (f37_ai10rz k v3.Source v3.Dest v3.Seq v3.Created v3.Lifetime v3.HopLimit v3.Hops v3.Priority v3.Offset v3.Total v3.Payload) fun o5 =>
     match o5 with
     | .o0 v8 v9 =>
      cond (((v8 == h0_) && (v9 == h0__1)))
       (
        ifE (((List.length h1_) + 1) * 104 ≤ roomy) (
         f36_aiioozaiiz_ww_l1_j2 k x10 x11 h0_ h0__1 (h1_ ++ ([v3] : List T39)) e1 e0))
       (f36_aiioozaiiz_ww_l1_j3 k x10 x11 false h0_ h0__1 h1_ v3.Source v3.Dest v3.Seq v3.Created v3.Lifetime v3.HopLimit v3.Hops v3.Priority v3.Offset v3.Total v3.Payload e1 e0)))
theorem f36_aiioozaiiz_ww_l1_j1_ok (k:Nat) (x10 x11:Int) (x12:Bool) (h0_ h0__1:Int) (h1_ e1:List T39) (e0:List T65) (r:R36_aiioozaiiz_ww_l1) (hF:f36_aiioozaiiz_ww_l1_j1 k x10 x11 x12 h0_ h0__1 h1_ e1 e0 = some r) : EX 36 k (nav B36 [2,2,1,2,2,1,2,2]) (⟨25,[(3,.ptr 30000 0),(5,.own 30001),(9,.own 1000001),(10,.p (.int .i64 x10)),(11,.p (.int .i64 x11)),(12,.p (.bool x12))],[(30000,.box 79 [.p (.int .i64 h0_),.p (.int .u32 h0__1)]),(30001,.row true 11 39 (rowsOf encT39 h1_)),(1000001,.row true 11 39 (rowsOf encT39 e1)),(1000000,.row true 4 65 (rowsOf encT65 e0))]⟩ : St) = some r.st := by
 unfold f36_aiioozaiiz_ww_l1_j1 at hF
 obtain ⟨h1,hF⟩ := ifE_some.1 hF
 obtain ⟨h2,hF⟩ := ifE_some.1 hF
 obtain ⟨v3,h4,hF⟩ := bs hF
 obtain ⟨o5,h6,hF⟩ := bs hF
 have hc7 := f37_ai10rz_ok k v3.Source v3.Dest v3.Seq v3.Created v3.Lifetime v3.HopLimit v3.Hops v3.Priority v3.Offset v3.Total v3.Payload _ h6
 cases o5 with
 | o0 v8 v9 =>
  (try dsimp only at hF)
  (try simp only [NM,EE,R37_ai10rz.st] at hc7)
  simp (maxSteps:=999999) (disch:=first|exact D (by decide)|exact K (by kernel_rfl)) only [E,EE,↓reduceIte,simprocAttr,xk B36 [2,2,1,2,2,1,2,2] .sq rfl,xk B36 [1,2,2,1,2,2,1,2,2] (.bk 1) rfl,xk B36 [2,1,2,2,1,2,2,1,2,2] .sq rfl,rg B36 [1,2,1,2,2,1,2,2,1,2,2] 4 false rfl,hr_36_4,indexAddrV,t_24,t_39,encT39_eq,xk B36 [2,2,1,2,2,1,2,2,1,2,2] .sq rfl,rg B36 [1,2,2,1,2,2,1,2,2,1,2,2] 5 true rfl,hr_36_5,callStep,CL,gv,List.contains,t_79,ag_79,t_3,t_22,xk B36 [2,2,2,1,2,2,1,2,2,1,2,2] (.cd 18) rfl,h1,h2,h4,hc7]
  rcases cond_some hF with ⟨h10,hF⟩ | ⟨h10,hF⟩
  ·have q11 : [[.p (.int .i64 v3.Source),.p (.int .i64 v3.Dest),.p (.int .u32 v3.Seq),.p (.int .i64 v3.Created),.p (.int .i64 v3.Lifetime),.p (.int .i64 v3.HopLimit),.p (.int .i64 v3.Hops),.p (.int .i64 v3.Priority),.p (.int .i64 v3.Offset),.p (.int .i64 v3.Total),.sl 1 (rowsOf (encI .u8) v3.Payload)]] = rowsOf encT39 ([v3] : List T39) := rfl
   have q12 : List.map (tell [0,0,0,0,0,0,0,0,0,0,1]) (rowsOf encT39 ([v3] : List T39)) = rowsOf encT39 ([v3] : List T39) := rfl
   obtain ⟨h13,hF⟩ := ifE_some.1 hF
   have hJ := f36_aiioozaiiz_ww_l1_j2_ok k x10 x11 h0_ h0__1 (h1_ ++ ([v3] : List T39)) e1 e0 _ hF
   simp (maxSteps:=999999) (disch:=first|exact D (by decide)|exact K (by kernel_rfl)) only [E,EE,↓reduceIte,simprocAttr,rg B36 [2,2,2,2,1,2,2,1,2,2,1,2,2] 6 false rfl,hr_36_6,t_39,buildSliceV,fillRows,sm_39,t_24,appendV,content,h1,h2,h4,hc7,h10,q11,q12,h13]
   try simp only [NM,EE] at hJ
   exact hJ
  ·have hJ := f36_aiioozaiiz_ww_l1_j3_ok k x10 x11 false h0_ h0__1 h1_ v3.Source v3.Dest v3.Seq v3.Created v3.Lifetime v3.HopLimit v3.Hops v3.Priority v3.Offset v3.Total v3.Payload e1 e0 _ hF
   simp (maxSteps:=999999) (disch:=first|exact D (by decide)|exact K (by kernel_rfl)) only [E,EE,↓reduceIte,simprocAttr,xk B36 [3,2,2,2,1,2,2,1,2,2,1,2,2] .sk rfl,h1,h2,h4,hc7,h10]
   try simp only [NM,EE] at hJ
   exact hJ
noncomputable def f36_aiioozaiiz_ww_l1_b (k:Nat) (x10 x11 h0_ h0__1:Int) (h1_ e1:List T39) (e0:List T65) : Option R36_aiioozaiiz_ww_l1 :=
 cond ((decide (x11 < x10)))
  (f36_aiioozaiiz_ww_l1_j1 k x10 x11 true h0_ h0__1 h1_ e1 e0)
  (some (R36_aiioozaiiz_ww_l1.o2 x10 x11 false h0_ h0__1 h1_ e1 e0))
theorem f36_aiioozaiiz_ww_l1_b_ok (k:Nat) (x10 x11 h0_ h0__1:Int) (h1_ e1:List T39) (e0:List T65) (r:R36_aiioozaiiz_ww_l1) (hF:f36_aiioozaiiz_ww_l1_b k x10 x11 h0_ h0__1 h1_ e1 e0 = some r) : EX 36 k (nav B36 [1,2,2,1,2,2]) (⟨25,[(3,.ptr 30000 0),(5,.own 30001),(9,.own 1000001),(10,.p (.int .i64 x10)),(11,.p (.int .i64 x11))],[(30000,.box 79 [.p (.int .i64 h0_),.p (.int .u32 h0__1)]),(30001,.row true 11 39 (rowsOf encT39 h1_)),(1000001,.row true 11 39 (rowsOf encT39 e1)),(1000000,.row true 4 65 (rowsOf encT65 e0))]⟩ : St) = some r.st := by
 unfold f36_aiioozaiiz_ww_l1_b at hF
 simp (maxSteps:=999999) (disch:=first|exact D (by decide)|exact K (by kernel_rfl)) only [E,EE,↓reduceIte,simprocAttr,xk B36 [1,2,2,1,2,2] .sq rfl,rg B36 [1,1,2,2,1,2,2] 3 false rfl,hr_36_3,xk B36 [2,1,2,2,1,2,2] .sq rfl,xk B36 [1,2,1,2,2,1,2,2] (.cd 12) rfl]
 rcases cond_some hF with ⟨h1,hF⟩ | ⟨h1,hF⟩
 ·have hJ := f36_aiioozaiiz_ww_l1_j1_ok k x10 x11 true h0_ h0__1 h1_ e1 e0 _ hF
  simp (maxSteps:=999999) (disch:=first|exact D (by decide)|exact K (by kernel_rfl)) only [E,EE,↓reduceIte,simprocAttr,xk B36 [2,1,2,1,2,2,1,2,2] .sk rfl,h1]
  try simp only [NM,EE] at hJ
  exact hJ
 ·cases hF
  simp (maxSteps:=999999) (disch:=first|exact D (by decide)|exact K (by kernel_rfl)) only [E,EE,↓reduceIte,simprocAttr,xk B36 [3,1,2,1,2,2,1,2,2] (.ex 0) rfl,R36_aiioozaiiz_ww_l1.st,h1]
noncomputable def f36_aiioozaiiz_ww_l1 (k:Nat) : Nat → Int → Int → Int → Int → (List T39) → (List T39) → (List T65) → Option R36_aiioozaiiz_ww_l1
 | 0,_,_,_,_,_,_,_ => none
 | n + 1,x10,x11,h0_,h0__1,h1_,e1,e0 => Option.bind (f36_aiioozaiiz_ww_l1_b k x10 x11 h0_ h0__1 h1_ e1 e0) fun o =>
  match o with
  | .o0 y y_1 y_2 y_3 y_4 y_5 y_6 => f36_aiioozaiiz_ww_l1 k n y y_1 y_2 y_3 y_4 y_5 y_6
  | .o1 y y_1 y_2 y_3 y_4 y_5 y_6 => f36_aiioozaiiz_ww_l1 k n y y_1 y_2 y_3 y_4 y_5 y_6
  | .o2 y y_1 y_2 y_3 y_4 y_5 y_6 y_7 => some (.o2 y y_1 y_2 y_3 y_4 y_5 y_6 y_7)
theorem f36_aiioozaiiz_ww_l1_ok (k n:Nat) : ∀ (x10 x11 h0_ h0__1:Int) (h1_ e1:List T39) (e0:List T65) (r:R36_aiioozaiiz_ww_l1) (hF:f36_aiioozaiiz_ww_l1 k n x10 x11 h0_ h0__1 h1_ e1 e0 = some r) (σ:St) (hσ:headR (hints.head 36 3) (hints.canon 36 3) σ = some (⟨25,[(3,.ptr 30000 0),(5,.own 30001),(9,.own 1000001),(10,.p (.int .i64 x10)),(11,.p (.int .i64 x11))],[(30000,.box 79 [.p (.int .i64 h0_),.p (.int .u32 h0__1)]),(30001,.row true 11 39 (rowsOf encT39 h1_)),(1000001,.row true 11 39 (rowsOf encT39 e1)),(1000000,.row true 4 65 (rowsOf encT65 e0))]⟩ : St)),LP 36 k (nav B36 [1,2,2,1,2,2]) n σ = some r.st := by
 induction n with
 | zero => intro x10 x11 h0_ h0__1 h1_ e1 e0 r hF; cases hF
 | succ n ih =>
  intro x10 x11 h0_ h0__1 h1_ e1 e0 r hF σ hσ
  rw [f36_aiioozaiiz_ww_l1] at hF
  obtain ⟨o,h,hF⟩ := Option.bind_eq_some_iff.1 hF
  have hB := f36_aiioozaiiz_ww_l1_b_ok k x10 x11 h0_ h0__1 h1_ e1 e0 o h
  unfold LP at ih ⊢
  unfold EX at hB
  rw [loopK_succ,show firstReg (nav B36 [1,2,2,1,2,2]) = 3 from rfl,hσ,headK_some,hB]
  cases o with
  | o0 y y_1 y_2 y_3 y_4 y_5 y_6 =>
   refine ih y y_1 y_2 y_3 y_4 y_5 y_6 r hF _ ?_
   simp (maxSteps:=999999) (disch:=first|exact D (by decide)|exact K (by kernel_rfl)) only [E,EE,↓reduceIte,simprocAttr,hh_36_3,hc_36_3]
  | o1 y y_1 y_2 y_3 y_4 y_5 y_6 =>
   refine ih y y_1 y_2 y_3 y_4 y_5 y_6 r hF _ ?_
   simp (maxSteps:=999999) (disch:=first|exact D (by decide)|exact K (by kernel_rfl)) only [E,EE,↓reduceIte,simprocAttr,hh_36_3,hc_36_3]
  | o2 y y_1 y_2 y_3 y_4 y_5 y_6 y_7 => cases hF; rfl
noncomputable def f36_aiioozaiiz_ww_j2 (k:Nat) (x10 x11:Int) (x12:Bool) (h0_ h0__1:Int) (h1_ e1:List T39) (e0:List T65) : Option R36_aiioozaiiz_ww :=
 some (R36_aiioozaiiz_ww.o0 e0 e1 h1_)
theorem f36_aiioozaiiz_ww_j2_ok (k:Nat) (x10 x11:Int) (x12:Bool) (h0_ h0__1:Int) (h1_ e1:List T39) (e0:List T65) (r:R36_aiioozaiiz_ww) (hF:f36_aiioozaiiz_ww_j2 k x10 x11 x12 h0_ h0__1 h1_ e1 e0 = some r) : finK Try.prog Try.f36 2 (EX 36 k (nav B36 [2,2,2]) (⟨25,[(3,.ptr 30000 0),(5,.own 30001),(9,.own 1000001),(10,.p (.int .i64 x10)),(11,.p (.int .i64 x11)),(12,.p (.bool x12))],[(30000,.box 79 [.p (.int .i64 h0_),.p (.int .u32 h0__1)]),(30001,.row true 11 39 (rowsOf encT39 h1_)),(1000001,.row true 11 39 (rowsOf encT39 e1)),(1000000,.row true 4 65 (rowsOf encT65 e0))]⟩ : St)) = some r.st := by
 unfold f36_aiioozaiiz_ww_j2 at hF
 cases hF
 simp (maxSteps:=999999) (disch:=first|exact D (by decide)|exact K (by kernel_rfl)) only [E,EE,↓reduceIte,simprocAttr,xk B36 [2,2,2] .sq rfl,rg B36 [1,2,2,2] 8 false rfl,hr_36_8,xk B36 [2,2,2,2] .rt rfl,finK_norm,finK_ret,fin36,R36_aiioozaiiz_ww.st]
noncomputable def f36_aiioozaiiz_ww_e (k:Nat) (a0 a0_1 a1 a1_1:Int) (e0:List T65) (e1:List T39) : Option R36_aiioozaiiz_ww :=
 Option.bind (f36_aiioozaiiz_ww_l1 k k ((List.length e1) : Int) 0 a1 a1_1 [] e1 e0) fun o1 =>
  match o1 with
  | .o0 _ _ _ _ _ _ _ =>
   none
  | .o1 _ _ _ _ _ _ _ =>
   none
  | .o2 v4 v5 v6 v7 v8 v9 v10 v11 =>
   f36_aiioozaiiz_ww_j2 k v4 v5 v6 v7 v8 v9 v10 v11
theorem f36_aiioozaiiz_ww_e_ok (k:Nat) (a0 a0_1 a1 a1_1:Int) (e0:List T65) (e1:List T39) (r:R36_aiioozaiiz_ww) (hF:f36_aiioozaiiz_ww_e k a0 a0_1 a1 a1_1 e0 e1 = some r) : finK Try.prog Try.f36 2 (EX 36 k (nav B36 []) (⟨25,[(0,.agg [.p (.int .i64 a0),.p (.int .u32 a0_1),.own 1000000,.own 1000001]),(1,.agg [.p (.int .i64 a1),.p (.int .u32 a1_1)])],[(1000000,.row true 4 65 (rowsOf encT65 e0)),(1000001,.row true 11 39 (rowsOf encT39 e1))]⟩ : St)) = some r.st := by
 unfold f36_aiioozaiiz_ww_e at hF
 obtain ⟨o1,h2,hF⟩ := bs hF
 have hc3 := f36_aiioozaiiz_ww_l1_ok k k ((List.length e1) : Int) 0 a1 a1_1 [] e1 e0 _ h2
 simp (maxSteps:=999999) (disch:=first|exact D (by decide)|exact K (by kernel_rfl)) only [E,EE,↓reduceIte,simprocAttr,xk B36 [] .sq rfl,rg B36 [1] 0 false rfl,hr_36_0,xk B36 [2] .sq rfl,rg B36 [1,2] 1 false rfl,hr_36_1,xk B36 [2,2] .sq rfl,xk B36 [1,2,2] .sq rfl,rg B36 [1,1,2,2] 2 false rfl,hr_36_2,fieldAddrV,t_26,t_24,xk B36 [2,1,2,2] (.bk 0) rfl,xk B36 [2,2,1,2,2] .lp rfl,hh_36_3,hc_36_3]
 (try simp only [NM,EE] at hc3)
 rw [hc3 _ (by simp (maxSteps:=999999) (disch:=first|exact D (by decide)|exact K (by kernel_rfl)) only [E,EE,↓reduceIte,simprocAttr,hh_36_3,hc_36_3])]
 clear hc3
 cases o1 with
 | o0 _ _ _ _ _ _ _ =>
  (try dsimp only at hF)
  cases hF
 | o1 _ _ _ _ _ _ _ =>
  (try dsimp only at hF)
  cases hF
 | o2 v4 v5 v6 v7 v8 v9 v10 v11 =>
  (try dsimp only at hF)
  have hJ := f36_aiioozaiiz_ww_j2_ok k v4 v5 v6 v7 v8 v9 v10 v11 _ hF
  simp (maxSteps:=999999) (disch:=first|exact D (by decide)|exact K (by kernel_rfl)) only [E,EE,↓reduceIte,simprocAttr,R36_aiioozaiiz_ww_l1.st]
  try simp only [NM,EE] at hJ
  exact hJ
noncomputable def f36_aiioozaiiz_ww (k:Nat) (a0 a0_1 a1 a1_1:Int) (e0:List T65) (e1:List T39) : Option R36_aiioozaiiz_ww := match k with | 0 => none | k + 1 => f36_aiioozaiiz_ww_e k a0 a0_1 a1 a1_1 e0 e1
theorem f36_aiioozaiiz_ww_ok (k:Nat) (a0 a0_1 a1 a1_1:Int) (e0:List T65) (e1:List T39) (r:R36_aiioozaiiz_ww) (hF:f36_aiioozaiiz_ww k a0 a0_1 a1 a1_1 e0 e1 = some r) : CV k 36 [.agg [.p (.int .i64 a0),.p (.int .u32 a0_1),.own 1000000,.own 1000001],.agg [.p (.int .i64 a1),.p (.int .u32 a1_1)]] [.row true 4 65 (rowsOf encT65 e0),.row true 11 39 (rowsOf encT39 e1)] = some r.st := by
 cases k with
 | zero => cases hF
 | succ k =>
  unfold CV
  rw [ev_call (F := Try.f36) (c := (nav B36 [])) rfl Try.func36 rfl rfl rfl rfl]
  exact f36_aiioozaiiz_ww_e_ok k a0 a0_1 a1 a1_1 e0 e1 r hF
end Go.Proofs.YticggdfaehneeaaV