/- What the program's functions answer: plain functions,and that the interpreter answers what they do. Written by a program of this session,out of the translation. -/
import Derived.Test.YticggdfaehneeaaVP6
namespace Go.Proofs.YticggdfaehneeaaV
open Go
set_option linter.unusedVariables false
set_option linter.unusedSimpArgs false
set_option maxRecDepth 8000
set_option maxHeartbeats 4000000
-- f63_ai10rz: f63 heliograph/custody.Key
inductive R63_ai10rz where
 | o0 (y y_1 y_2:Int)
noncomputable def R63_ai10rz.st : R63_ai10rz → V × List O × List O
 | .o0 y y_1 y_2 => (.agg [.p (.int .i64 y),.p (.int .u32 y_1),.p (.int .i64 y_2)],[],[])
noncomputable def f63_ai10rz_e (k:Nat) (a0 a0_1 a0_2 a0_3 a0_4 a0_5 a0_6 a0_7 a0_8 a0_9:Int) (a0_10:List Int) : Option R63_ai10rz :=
 some (R63_ai10rz.o0 a0 a0_2 a0_8)
theorem f63_ai10rz_e_ok (k:Nat) (a0 a0_1 a0_2 a0_3 a0_4 a0_5 a0_6 a0_7 a0_8 a0_9:Int) (a0_10:List Int) (r:R63_ai10rz) (hF:f63_ai10rz_e k a0 a0_1 a0_2 a0_3 a0_4 a0_5 a0_6 a0_7 a0_8 a0_9 a0_10 = some r) : finK Try.prog Try.f63 0 (EX 63 k (nav B63 []) (⟨10,[(0,.agg [.p (.int .i64 a0),.p (.int .i64 a0_1),.p (.int .u32 a0_2),.p (.int .i64 a0_3),.p (.int .i64 a0_4),.p (.int .i64 a0_5),.p (.int .i64 a0_6),.p (.int .i64 a0_7),.p (.int .i64 a0_8),.p (.int .i64 a0_9),.sl 1 (rowsOf (encI .u8) a0_10)])],[]⟩ : St)) = some r.st := by
 unfold f63_ai10rz_e at hF
 cases hF
 simp (maxSteps:=999999) (disch:=first|exact D (by decide)|exact K (by kernel_rfl)) only [E,EE,↓reduceIte,simprocAttr,xk B63 [] .sq rfl,rg B63 [1] 0 false rfl,hr_63_0,t_63,xk B63 [2] .sq rfl,rg B63 [1,2] 1 false rfl,hr_63_1,fieldAddrV,t_39,t_3,t_22,bl_63,xk B63 [2,2] .rt rfl,finK_norm,finK_ret,fin63,R63_ai10rz.st]
noncomputable def f63_ai10rz (k:Nat) (a0 a0_1 a0_2 a0_3 a0_4 a0_5 a0_6 a0_7 a0_8 a0_9:Int) (a0_10:List Int) : Option R63_ai10rz := match k with | 0 => none | k + 1 => f63_ai10rz_e k a0 a0_1 a0_2 a0_3 a0_4 a0_5 a0_6 a0_7 a0_8 a0_9 a0_10
theorem f63_ai10rz_ok (k:Nat) (a0 a0_1 a0_2 a0_3 a0_4 a0_5 a0_6 a0_7 a0_8 a0_9:Int) (a0_10:List Int) (r:R63_ai10rz) (hF:f63_ai10rz k a0 a0_1 a0_2 a0_3 a0_4 a0_5 a0_6 a0_7 a0_8 a0_9 a0_10 = some r) : CV k 63 [.agg [.p (.int .i64 a0),.p (.int .i64 a0_1),.p (.int .u32 a0_2),.p (.int .i64 a0_3),.p (.int .i64 a0_4),.p (.int .i64 a0_5),.p (.int .i64 a0_6),.p (.int .i64 a0_7),.p (.int .i64 a0_8),.p (.int .i64 a0_9),.sl 1 (rowsOf (encI .u8) a0_10)]] [] = some r.st := by
 cases k with
 | zero => cases hF
 | succ k =>
  unfold CV
  rw [ev_call (F := Try.f63) (c := (nav B63 [])) rfl Try.func63 rfl rfl rfl rfl]
  exact f63_ai10rz_e_ok k a0 a0_1 a0_2 a0_3 a0_4 a0_5 a0_6 a0_7 a0_8 a0_9 a0_10 r hF
-- f53_ai10rz: f53 heliograph/agent.seen
inductive R53_ai10rz where
 | o0 (y y_1 y_2 y_3:Int)
noncomputable def R53_ai10rz.st : R53_ai10rz → V × List O × List O
 | .o0 y y_1 y_2 y_3 => (.agg [.p (.int .i64 y),.p (.int .u32 y_1),.p (.int .i64 y_2),.p (.int .i64 y_3)],[],[])
noncomputable def f53_ai10rz_e (k:Nat) (a0 a0_1 a0_2 a0_3 a0_4 a0_5 a0_6 a0_7 a0_8 a0_9:Int) (a0_10:List Int) : Option R53_ai10rz :=
 Option.bind (f63_ai10rz k a0 a0_1 a0_2 a0_3 a0_4 a0_5 a0_6 a0_7 a0_8 a0_9 a0_10) fun o1 =>
  match o1 with
  | .o0 v4 v5 v6 =>
   some (R53_ai10rz.o0 v4 v5 v6 ((List.length a0_10) : Int))
theorem f53_ai10rz_e_ok (k:Nat) (a0 a0_1 a0_2 a0_3 a0_4 a0_5 a0_6 a0_7 a0_8 a0_9:Int) (a0_10:List Int) (r:R53_ai10rz) (hF:f53_ai10rz_e k a0 a0_1 a0_2 a0_3 a0_4 a0_5 a0_6 a0_7 a0_8 a0_9 a0_10 = some r) : finK Try.prog Try.f53 0 (EX 53 k (nav B53 []) (⟨9,[(0,.agg [.p (.int .i64 a0),.p (.int .i64 a0_1),.p (.int .u32 a0_2),.p (.int .i64 a0_3),.p (.int .i64 a0_4),.p (.int .i64 a0_5),.p (.int .i64 a0_6),.p (.int .i64 a0_7),.p (.int .i64 a0_8),.p (.int .i64 a0_9),.sl 1 (rowsOf (encI .u8) a0_10)])],[]⟩ : St)) = some r.st := by
 unfold f53_ai10rz_e at hF
 obtain ⟨o1,h2,hF⟩ := bs hF
 have hc3 := f63_ai10rz_ok k a0 a0_1 a0_2 a0_3 a0_4 a0_5 a0_6 a0_7 a0_8 a0_9 a0_10 _ h2
 cases o1 with
 | o0 v4 v5 v6 =>
  (try dsimp only at hF)
  (try simp only [NM,EE,R63_ai10rz.st] at hc3)
  cases hF
  simp (maxSteps:=999999) (disch:=first|exact D (by decide)|exact K (by kernel_rfl)) only [E,EE,↓reduceIte,simprocAttr,xk B53 [] .sq rfl,rg B53 [1] 0 false rfl,hr_53_0,t_65,xk B53 [2] .sq rfl,rg B53 [1,2] 1 true rfl,hr_53_1,t_39,callStep,CL,gv,List.contains,fieldAddrV,t_29,bl_65,xk B53 [2,2] .rt rfl,finK_norm,finK_ret,fin53,R53_ai10rz.st,hc3]
noncomputable def f53_ai10rz (k:Nat) (a0 a0_1 a0_2 a0_3 a0_4 a0_5 a0_6 a0_7 a0_8 a0_9:Int) (a0_10:List Int) : Option R53_ai10rz := match k with | 0 => none | k + 1 => f53_ai10rz_e k a0 a0_1 a0_2 a0_3 a0_4 a0_5 a0_6 a0_7 a0_8 a0_9 a0_10
theorem f53_ai10rz_ok (k:Nat) (a0 a0_1 a0_2 a0_3 a0_4 a0_5 a0_6 a0_7 a0_8 a0_9:Int) (a0_10:List Int) (r:R53_ai10rz) (hF:f53_ai10rz k a0 a0_1 a0_2 a0_3 a0_4 a0_5 a0_6 a0_7 a0_8 a0_9 a0_10 = some r) : CV k 53 [.agg [.p (.int .i64 a0),.p (.int .i64 a0_1),.p (.int .u32 a0_2),.p (.int .i64 a0_3),.p (.int .i64 a0_4),.p (.int .i64 a0_5),.p (.int .i64 a0_6),.p (.int .i64 a0_7),.p (.int .i64 a0_8),.p (.int .i64 a0_9),.sl 1 (rowsOf (encI .u8) a0_10)]] [] = some r.st := by
 cases k with
 | zero => cases hF
 | succ k =>
  unfold CV
  rw [ev_call (F := Try.f53) (c := (nav B53 [])) rfl Try.func53 rfl rfl rfl rfl]
  exact f53_ai10rz_e_ok k a0 a0_1 a0_2 a0_3 a0_4 a0_5 a0_6 a0_7 a0_8 a0_9 a0_10 r hF
-- f52_rai4z: f52 slices.Contains[[]heliograph/api.Seen,heliograph/api.Seen]
inductive R52_rai4z where
 | o0 (y:Bool)
noncomputable def R52_rai4z.st : R52_rai4z → V × List O × List O
 | .o0 y => (.p (.bool y),[],[])
noncomputable def f52_rai4z_e (k:Nat) (a0:List T65) (a1 a1_1 a1_2 a1_3:Int) : Option R52_rai4z :=
 Option.bind (f33_rai4z k a0 a1 a1_1 a1_2 a1_3) fun o1 =>
  match o1 with
  | .o0 v4 =>
   some (R52_rai4z.o0 (decide (v4 ≥ 0)))
theorem f52_rai4z_e_ok (k:Nat) (a0:List T65) (a1 a1_1 a1_2 a1_3:Int) (r:R52_rai4z) (hF:f52_rai4z_e k a0 a1 a1_1 a1_2 a1_3 = some r) : finK Try.prog Try.f52 0 (EX 52 k (nav B52 []) (⟨9,[(0,.sl 4 (rowsOf encT65 a0)),(1,.agg [.p (.int .i64 a1),.p (.int .u32 a1_1),.p (.int .i64 a1_2),.p (.int .i64 a1_3)])],[]⟩ : St)) = some r.st := by
 unfold f52_rai4z_e at hF
 obtain ⟨o1,h2,hF⟩ := bs hF
 have hc3 := f33_rai4z_ok k a0 a1 a1_1 a1_2 a1_3 _ h2
 cases o1 with
 | o0 v4 =>
  (try dsimp only at hF)
  (try simp only [NM,EE,R33_rai4z.st] at hc3)
  cases hF
  simp (maxSteps:=999999) (disch:=first|exact D (by decide)|exact K (by kernel_rfl)) only [E,EE,↓reduceIte,simprocAttr,xk B52 [] .sq rfl,rg B52 [1] 0 false rfl,hr_52_0,xk B52 [2] .sq rfl,rg B52 [1,2] 1 false rfl,hr_52_1,t_65,callStep,CL,gv,List.contains,xk B52 [2,2] .rt rfl,finK_norm,finK_ret,fin52,R52_rai4z.st,hc3]
noncomputable def f52_rai4z (k:Nat) (a0:List T65) (a1 a1_1 a1_2 a1_3:Int) : Option R52_rai4z := match k with | 0 => none | k + 1 => f52_rai4z_e k a0 a1 a1_1 a1_2 a1_3
theorem f52_rai4z_ok (k:Nat) (a0:List T65) (a1 a1_1 a1_2 a1_3:Int) (r:R52_rai4z) (hF:f52_rai4z k a0 a1 a1_1 a1_2 a1_3 = some r) : CV k 52 [.sl 4 (rowsOf encT65 a0),.agg [.p (.int .i64 a1),.p (.int .u32 a1_1),.p (.int .i64 a1_2),.p (.int .i64 a1_3)]] [] = some r.st := by
 cases k with
 | zero => cases hF
 | succ k =>
  unfold CV
  rw [ev_call (F := Try.f52) (c := (nav B52 [])) rfl Try.func52 rfl rfl rfl rfl]
  exact f52_rai4z_e_ok k a0 a1 a1_1 a1_2 a1_3 r hF
-- f64_oii_w: f64 slices.Delete[[]heliograph/api.Seen,heliograph/api.Seen]
inductive R64_oii_w where
 | o0 (y:List T65)
 | o1 (y y_1:Nat) (y_2:List T65)
noncomputable def R64_oii_w.st : R64_oii_w → V × List O × List O
 | .o0 y => (.own 1000000,[.row true 4 65 (rowsOf encT65 y)],[])
 | .o1 y y_1 y_2 => (V.cut 1000000 4 y y_1,[.row true 4 65 (rowsOf encT65 y_2)],[])
noncomputable def f64_oii_w_j1 (k:Nat) (x1 x2:Int) (x16:Bool) (e0:List T65) : Option R64_oii_w :=
 ifE ((0:Int) ≤ x1) (
  ifE ((Int.toNat x1) ≤ (List.length e0)) (
   ifE ((0:Int) ≤ x2) (
    ifE ((Int.toNat x2) ≤ (List.length e0)) (
     ifE (((Int.toNat x2) + ((List.length e0) - (Int.toNat x2))) ≤ (List.length e0)) (
      ifE (((Int.toNat x1) + (List.length ((List.take (((List.length e0) - (Int.toNat x2))) (List.drop (Int.toNat x2) e0))))) ≤ (List.length e0)) (
       ifE (0 < (List.length ((List.take (((List.length e0) - (Int.toNat x2))) (List.drop (Int.toNat x2) e0))))) (
        ifE ((0:Int) ≤ ((((Int.toNat x1) + (List.length ((List.take (((List.length e0) - (Int.toNat x2))) (List.drop (Int.toNat x2) e0))))) : Nat) : Int)) (
         ifE ((0:Int) ≤ ((List.length e0) : Int)) (
          ifE ((Int.toNat (((((Int.toNat x1) + (List.length ((List.take (((List.length e0) - (Int.toNat x2))) (List.drop (Int.toNat x2) e0))))) : Nat) : Int))) ≤ (Int.toNat ((List.length e0) : Int))) (
           ifE ((Int.toNat ((List.length e0) : Int)) ≤ (max (((Int.toNat x1) + (List.length ((List.take (((List.length e0) - (Int.toNat x2))) (List.drop (Int.toNat x2) e0)))))) (List.length (((List.take (Int.toNat x1) e0) ++ ((List.take (((List.length e0) - (Int.toNat x2))) (List.drop (Int.toNat x2) e0)) ++ (List.drop (((Int.toNat x1) + (List.length ((List.take (((List.length e0) - (Int.toNat x2))) (List.drop (Int.toNat x2) e0)))))) e0))))))) (
            ifE (((Int.toNat (((((Int.toNat x1) + (List.length ((List.take (((List.length e0) - (Int.toNat x2))) (List.drop (Int.toNat x2) e0))))) : Nat) : Int))) + ((Int.toNat ((List.length e0) : Int)) - (Int.toNat (((((Int.toNat x1) + (List.length ((List.take (((List.length e0) - (Int.toNat x2))) (List.drop (Int.toNat x2) e0))))) : Nat) : Int))))) ≤ (List.length (((List.take (Int.toNat x1) e0) ++ ((List.take (((List.length e0) - (Int.toNat x2))) (List.drop (Int.toNat x2) e0)) ++ (List.drop (((Int.toNat x1) + (List.length ((List.take (((List.length e0) - (Int.toNat x2))) (List.drop (Int.toNat x2) e0)))))) e0)))))) (
             some (R64_oii_w.o1 0 (((Int.toNat x1) + (List.length ((List.take (((List.length e0) - (Int.toNat x2))) (List.drop (Int.toNat x2) e0)))))) (((List.take ((Int.toNat (((((Int.toNat x1) + (List.length ((List.take (((List.length e0) - (Int.toNat x2))) (List.drop (Int.toNat x2) e0))))) : Nat) : Int)))) (((List.take (Int.toNat x1) e0) ++ ((List.take (((List.length e0) - (Int.toNat x2))) (List.drop (Int.toNat x2) e0)) ++ (List.drop (((Int.toNat x1) + (List.length ((List.take (((List.length e0) - (Int.toNat x2))) (List.drop (Int.toNat x2) e0)))))) e0))))) ++ (List.replicate (((Int.toNat ((List.length e0) : Int)) - (Int.toNat (((((Int.toNat x1) + (List.length ((List.take (((List.length e0) - (Int.toNat x2))) (List.drop (Int.toNat x2) e0))))) : Nat) : Int))))) ((T65.mk 0 0 0 0) : T65) ++ (List.drop (((Int.toNat (((((Int.toNat x1) + (List.length ((List.take (((List.length e0) - (Int.toNat x2))) (List.drop (Int.toNat x2) e0))))) : Nat) : Int))) + ((Int.toNat ((List.length e0) : Int)) - (Int.toNat (((((Int.toNat x1) + (List.length ((List.take (((List.length e0) - (Int.toNat x2))) (List.drop (Int.toNat x2) e0))))) : Nat) : Int)))))) (((List.take (Int.toNat x1) e0) ++ ((List.take (((List.length e0) - (Int.toNat x2))) (List.drop (Int.toNat x2) e0)) ++ (List.drop (((Int.toNat x1) + (List.length ((List.take (((List.length e0) - (Int.toNat x2))) (List.drop (Int.toNat x2) e0)))))) e0)))))))))))))))))))))
theorem f64_oii_w_j1_ok (k:Nat) (x1 x2:Int) (x16:Bool) (e0:List T65) (r:R64_oii_w) (hF:f64_oii_w_j1 k x1 x2 x16 e0 = some r) : finK Try.prog Try.f64 1 (EX 64 k (nav B64 [2,2,2]) (⟨33,[(0,.own 1000000),(1,.p (.int .i64 x1)),(2,.p (.int .i64 x2)),(16,.p (.bool x16))],[(1000000,.row true 4 65 (rowsOf encT65 e0))]⟩ : St)) = some r.st := by
 unfold f64_oii_w_j1 at hF
 obtain ⟨h1,hF⟩ := ifE_some.1 hF
 obtain ⟨h2,hF⟩ := ifE_some.1 hF
 obtain ⟨h3,hF⟩ := ifE_some.1 hF
 obtain ⟨h4,hF⟩ := ifE_some.1 hF
 obtain ⟨h5,hF⟩ := ifE_some.1 hF
 obtain ⟨h6,hF⟩ := ifE_some.1 hF
 obtain ⟨h7,hF⟩ := ifE_some.1 hF
 obtain ⟨h8,hF⟩ := ifE_some.1 hF
 obtain ⟨h9,hF⟩ := ifE_some.1 hF
 obtain ⟨h10,hF⟩ := ifE_some.1 hF
 obtain ⟨h11,hF⟩ := ifE_some.1 hF
 obtain ⟨h12,hF⟩ := ifE_some.1 hF
 have q13 : List.replicate (((Int.toNat ((List.length e0) : Int)) - (Int.toNat (((((Int.toNat x1) + (List.length ((List.take (((List.length e0) - (Int.toNat x2))) (List.drop (Int.toNat x2) e0))))) : Nat) : Int))))) [.p (.int .i64 0),.p (.int .u32 0),.p (.int .i64 0),.p (.int .i64 0)] = rowsOf encT65 (List.replicate (((Int.toNat ((List.length e0) : Int)) - (Int.toNat (((((Int.toNat x1) + (List.length ((List.take (((List.length e0) - (Int.toNat x2))) (List.drop (Int.toNat x2) e0))))) : Nat) : Int))))) ((T65.mk 0 0 0 0) : T65)) := (rowsOf_replicate (enc := encT65) (n := (((Int.toNat ((List.length e0) : Int)) - (Int.toNat (((((Int.toNat x1) + (List.length ((List.take (((List.length e0) - (Int.toNat x2))) (List.drop (Int.toNat x2) e0))))) : Nat) : Int)))))) (x := ((T65.mk 0 0 0 0) : T65))).symm
 cases hF
 simp (maxSteps:=999999) (disch:=first|exact D (by decide)|exact K (by kernel_rfl)) only [E,EE,↓reduceIte,simprocAttr,xk B64 [2,2,2] .sq rfl,rg B64 [1,2,2,2] 4 false rfl,hr_64_4,t_23,xk B64 [2,2,2,2] .sq rfl,rg B64 [1,2,2,2,2] 5 true rfl,hr_64_5,sliceV,bound,t_65,appendV,content,xk B64 [2,2,2,2,2] .sq rfl,rg B64 [1,2,2,2,2,2] 6 false rfl,hr_64_6,clearV,sm_65,xk B64 [2,2,2,2,2,2] .sq rfl,rg B64 [1,2,2,2,2,2,2] 7 false rfl,hr_64_7,xk B64 [2,2,2,2,2,2,2] .rt rfl,finK_norm,finK_ret,fin64,R64_oii_w.st,h1,h2,h3,h4,h5,h6,h7,h8,h9,h10,h11,h12,q13]
noncomputable def f64_oii_w_e (k:Nat) (a1 a2:Int) (e0:List T65) : Option R64_oii_w :=
 ifE ((0:Int) ≤ a1) (
  ifE ((0:Int) ≤ a2) (
   ifE ((0:Int) ≤ ((List.length e0) : Int)) (
    ifE ((Int.toNat a1) ≤ (Int.toNat a2)) (
     ifE ((Int.toNat a2) ≤ (Int.toNat ((List.length e0) : Int))) (
      ifE ((Int.toNat ((List.length e0) : Int)) ≤ (List.length e0)) (
       cond ((a1 == a2))
        (some (R64_oii_w.o0 e0))
        (f64_oii_w_j1 k a1 a2 false e0)))))))
theorem f64_oii_w_e_ok (k:Nat) (a1 a2:Int) (e0:List T65) (r:R64_oii_w) (hF:f64_oii_w_e k a1 a2 e0 = some r) : finK Try.prog Try.f64 1 (EX 64 k (nav B64 []) (⟨33,[(0,.own 1000000),(1,.p (.int .i64 a1)),(2,.p (.int .i64 a2))],[(1000000,.row true 4 65 (rowsOf encT65 e0))]⟩ : St)) = some r.st := by
 unfold f64_oii_w_e at hF
 obtain ⟨h1,hF⟩ := ifE_some.1 hF
 obtain ⟨h2,hF⟩ := ifE_some.1 hF
 obtain ⟨h3,hF⟩ := ifE_some.1 hF
 obtain ⟨h4,hF⟩ := ifE_some.1 hF
 obtain ⟨h5,hF⟩ := ifE_some.1 hF
 obtain ⟨h6,hF⟩ := ifE_some.1 hF
 simp (maxSteps:=999999) (disch:=first|exact D (by decide)|exact K (by kernel_rfl)) only [E,EE,↓reduceIte,simprocAttr,xk B64 [] .sq rfl,rg B64 [1] 0 false rfl,hr_64_0,xk B64 [2] .sq rfl,rg B64 [1,2] 1 false rfl,hr_64_1,t_23,sliceV,bound,t_65,xk B64 [2,2] .sq rfl,xk B64 [1,2,2] .sq rfl,rg B64 [1,1,2,2] 2 false rfl,hr_64_2,xk B64 [2,1,2,2] (.cd 16) rfl,h1,h2,h3,h4,h5,h6]
 rcases cond_some hF with ⟨h7,hF⟩ | ⟨h7,hF⟩
 ·cases hF
  simp (maxSteps:=999999) (disch:=first|exact D (by decide)|exact K (by kernel_rfl)) only [E,EE,↓reduceIte,simprocAttr,xk B64 [2,2,1,2,2] .sq rfl,rg B64 [1,2,2,1,2,2] 3 false rfl,hr_64_3,xk B64 [2,2,2,1,2,2] .rt rfl,finK_norm,finK_ret,fin64,R64_oii_w.st,h1,h2,h3,h4,h5,h6,h7]
 ·have hJ := f64_oii_w_j1_ok k a1 a2 false e0 _ hF
  simp (maxSteps:=999999) (disch:=first|exact D (by decide)|exact K (by kernel_rfl)) only [E,EE,↓reduceIte,simprocAttr,xk B64 [3,2,1,2,2] .sk rfl,h1,h2,h3,h4,h5,h6,h7]
  try simp only [NM,EE] at hJ
  exact hJ
noncomputable def f64_oii_w (k:Nat) (a1 a2:Int) (e0:List T65) : Option R64_oii_w := match k with | 0 => none | k + 1 => f64_oii_w_e k a1 a2 e0
theorem f64_oii_w_ok (k:Nat) (a1 a2:Int) (e0:List T65) (r:R64_oii_w) (hF:f64_oii_w k a1 a2 e0 = some r) : CV k 64 [.own 1000000,.p (.int .i64 a1),.p (.int .i64 a2)] [.row true 4 65 (rowsOf encT65 e0)] = some r.st := by
 cases k with
 | zero => cases hF
 | succ k =>
  unfold CV
  rw [ev_call (F := Try.f64) (c := (nav B64 [])) rfl Try.func64 rfl rfl rfl rfl]
  exact f64_oii_w_e_ok k a1 a2 e0 r hF
-- f54_pai10rz_biiooww: f54 heliograph/agent.remember
inductive R54_pai10rz_biiooww where
 | o0 (y y_1:Int) (y_2:List T39) (y_3:List T65)
 | o1 (y y_1:Int) (y_2 y_3:Nat) (y_4:List T39) (y_5:List T65)
noncomputable def R54_pai10rz_biiooww.st : R54_pai10rz_biiooww → V × List O × List O
 | .o0 y y_1 y_2 y_3 => (V.tup [],[.box 26 [.p (.int .i64 y),.p (.int .u32 y_1),.own 2000000,.own 1000002],.dead,.row true 11 39 (rowsOf encT39 y_2)],[.row true 4 65 (rowsOf encT65 y_3)])
 | .o1 y y_1 y_2 y_3 y_4 y_5 => (V.tup [],[.box 26 [.p (.int .i64 y),.p (.int .u32 y_1),V.cut 2000000 4 y_2 y_3,.own 1000002],.dead,.row true 11 39 (rowsOf encT39 y_4)],[.row true 4 65 (rowsOf encT65 y_5)])
noncomputable def f54_pai10rz_biiooww_e (k:Nat) (a1 a1_1 a1_2 a1_3 a1_4 a1_5 a1_6 a1_7 a1_8 a1_9:Int) (a1_10:List Int) (e0 e0_1:Int) (e1:List T65) (e2:List T39) : Option R54_pai10rz_biiooww :=
 Option.bind (f53_ai10rz k a1 a1_1 a1_2 a1_3 a1_4 a1_5 a1_6 a1_7 a1_8 a1_9 a1_10) fun o1 =>
  match o1 with
  | .o0 v4 v5 v6 v7 =>
   ifE (((List.length e1) + 1) * 32 ≤ roomy) (
    cond ((decide ((IntKind.i64.wrap (((List.length (e1 ++ ([(T65.mk v4 v5 v6 v7)] : List T65))) : Int) - (64:Int))) > 0)))
     (
      Option.bind (f64_oii_w k 0 ((IntKind.i64.wrap (((List.length (e1 ++ ([(T65.mk v4 v5 v6 v7)] : List T65))) : Int) - (64:Int)))) (e1 ++ ([(T65.mk v4 v5 v6 v7)] : List T65))) fun o12 =>
       match o12 with
       | .o0 v15 =>
        some (R54_pai10rz_biiooww.o0 e0 e0_1 e2 v15)
       | .o1 v16 v17 v18 =>
        some (R54_pai10rz_biiooww.o1 e0 e0_1 v16 v17 e2 v18))
     (some (R54_pai10rz_biiooww.o0 e0 e0_1 e2 (e1 ++ ([(T65.mk v4 v5 v6 v7)] : List T65)))))
theorem f54_pai10rz_biiooww_e_ok (k:Nat) (a1 a1_1 a1_2 a1_3 a1_4 a1_5 a1_6 a1_7 a1_8 a1_9:Int) (a1_10:List Int) (e0 e0_1:Int) (e1:List T65) (e2:List T39) (r:R54_pai10rz_biiooww) (hF:f54_pai10rz_biiooww_e k a1 a1_1 a1_2 a1_3 a1_4 a1_5 a1_6 a1_7 a1_8 a1_9 a1_10 e0 e0_1 e1 e2 = some r) : finK Try.prog Try.f54 3 (EX 54 k (nav B54 []) (⟨33,[(0,.ptr 1000000 0),(1,.agg [.p (.int .i64 a1),.p (.int .i64 a1_1),.p (.int .u32 a1_2),.p (.int .i64 a1_3),.p (.int .i64 a1_4),.p (.int .i64 a1_5),.p (.int .i64 a1_6),.p (.int .i64 a1_7),.p (.int .i64 a1_8),.p (.int .i64 a1_9),.sl 1 (rowsOf (encI .u8) a1_10)])],[(1000000,.box 26 [.p (.int .i64 e0),.p (.int .u32 e0_1),.own 1000001,.own 1000002]),(1000001,.row true 4 65 (rowsOf encT65 e1)),(1000002,.row true 11 39 (rowsOf encT39 e2))]⟩ : St)) = some r.st := by
 unfold f54_pai10rz_biiooww_e at hF
 obtain ⟨o1,h2,hF⟩ := bs hF
 have hc3 := f53_ai10rz_ok k a1 a1_1 a1_2 a1_3 a1_4 a1_5 a1_6 a1_7 a1_8 a1_9 a1_10 _ h2
 cases o1 with
 | o0 v4 v5 v6 v7 =>
  (try dsimp only at hF)
  (try simp only [NM,EE,R53_ai10rz.st] at hc3)
  have q8 : [[.p (.int .i64 v4),.p (.int .u32 v5),.p (.int .i64 v6),.p (.int .i64 v7)]] = rowsOf encT65 ([(T65.mk v4 v5 v6 v7)] : List T65) := rfl
  have q9 : List.map (tell [0,0,0,0]) (rowsOf encT65 ([(T65.mk v4 v5 v6 v7)] : List T65)) = rowsOf encT65 ([(T65.mk v4 v5 v6 v7)] : List T65) := rfl
  obtain ⟨h10,hF⟩ := ifE_some.1 hF
  simp (maxSteps:=999999) (disch:=first|exact D (by decide)|exact K (by kernel_rfl)) only [E,EE,↓reduceIte,simprocAttr,xk B54 [] .sq rfl,rg B54 [1] 0 false rfl,hr_54_0,xk B54 [2] .sq rfl,rg B54 [1,2] 1 true rfl,hr_54_1,fieldAddrV,t_26,t_23,t_39,callStep,CL,gv,List.contains,buildSliceV,fillRows,sm_65,t_65,appendV,content,xk B54 [2,2] .sq rfl,rg B54 [1,2,2] 2 false rfl,hr_54_2,xk B54 [2,2,2] .sq rfl,rg B54 [1,2,2,2] 3 false rfl,hr_54_3,xk B54 [2,2,2,2] (.cd 23) rfl,hc3,q8,q9,h10]
  rcases cond_some hF with ⟨h11,hF⟩ | ⟨h11,hF⟩
  ·simp (maxSteps:=999999) (disch:=first|exact D (by decide)|exact K (by kernel_rfl)) only [E,EE,↓reduceIte,simprocAttr,rg B54 [2,2,2,2,2] 4 false rfl,hr_54_4,fieldAddrV,t_26,t_23,callStep,CL,gv,List.contains,hc3,q8,q9,h10,h11]
   obtain ⟨o12,h13,hF⟩ := bs hF
   have hc14 := f64_oii_w_ok k 0 ((IntKind.i64.wrap (((List.length (e1 ++ ([(T65.mk v4 v5 v6 v7)] : List T65))) : Int) - (64:Int)))) (e1 ++ ([(T65.mk v4 v5 v6 v7)] : List T65)) _ h13
   cases o12 with
   | o0 v15 =>
    (try dsimp only at hF)
    (try simp only [NM,EE,R64_oii_w.st] at hc14)
    cases hF
    simp (maxSteps:=999999) (disch:=first|exact D (by decide)|exact K (by kernel_rfl)) only [E,EE,↓reduceIte,simprocAttr,fieldAddrV,t_26,t_23,finK_norm,finK_ret,fin54,R54_pai10rz_biiooww.st,hc3,q8,q9,h10,h11,hc14]
   | o1 v16 v17 v18 =>
    (try dsimp only at hF)
    (try simp only [NM,EE,R64_oii_w.st] at hc14)
    cases hF
    simp (maxSteps:=999999) (disch:=first|exact D (by decide)|exact K (by kernel_rfl)) only [E,EE,↓reduceIte,simprocAttr,fieldAddrV,t_26,t_23,finK_norm,finK_ret,fin54,R54_pai10rz_biiooww.st,hc3,q8,q9,h10,h11,hc14]
  ·cases hF
   simp (maxSteps:=999999) (disch:=first|exact D (by decide)|exact K (by kernel_rfl)) only [E,EE,↓reduceIte,simprocAttr,xk B54 [3,2,2,2,2] .sk rfl,finK_norm,finK_ret,fin54,R54_pai10rz_biiooww.st,hc3,q8,q9,h10,h11]
noncomputable def f54_pai10rz_biiooww (k:Nat) (a1 a1_1 a1_2 a1_3 a1_4 a1_5 a1_6 a1_7 a1_8 a1_9:Int) (a1_10:List Int) (e0 e0_1:Int) (e1:List T65) (e2:List T39) : Option R54_pai10rz_biiooww := match k with | 0 => none | k + 1 => f54_pai10rz_biiooww_e k a1 a1_1 a1_2 a1_3 a1_4 a1_5 a1_6 a1_7 a1_8 a1_9 a1_10 e0 e0_1 e1 e2
theorem f54_pai10rz_biiooww_ok (k:Nat) (a1 a1_1 a1_2 a1_3 a1_4 a1_5 a1_6 a1_7 a1_8 a1_9:Int) (a1_10:List Int) (e0 e0_1:Int) (e1:List T65) (e2:List T39) (r:R54_pai10rz_biiooww) (hF:f54_pai10rz_biiooww k a1 a1_1 a1_2 a1_3 a1_4 a1_5 a1_6 a1_7 a1_8 a1_9 a1_10 e0 e0_1 e1 e2 = some r) : CV k 54 [.ptr 1000000 0,.agg [.p (.int .i64 a1),.p (.int .i64 a1_1),.p (.int .u32 a1_2),.p (.int .i64 a1_3),.p (.int .i64 a1_4),.p (.int .i64 a1_5),.p (.int .i64 a1_6),.p (.int .i64 a1_7),.p (.int .i64 a1_8),.p (.int .i64 a1_9),.sl 1 (rowsOf (encI .u8) a1_10)]] [.box 26 [.p (.int .i64 e0),.p (.int .u32 e0_1),.own 1000001,.own 1000002],.row true 4 65 (rowsOf encT65 e1),.row true 11 39 (rowsOf encT39 e2)] = some r.st := by
 cases k with
 | zero => cases hF
 | succ k =>
  unfold CV
  rw [ev_call (F := Try.f54) (c := (nav B54 [])) rfl Try.func54 rfl rfl rfl rfl]
  exact f54_pai10rz_biiooww_e_ok k a1 a1_1 a1_2 a1_3 a1_4 a1_5 a1_6 a1_7 a1_8 a1_9 a1_10 e0 e0_1 e1 e2 r hF
-- f55_ai10rzp_bii: f55 heliograph/agent.judge$2
inductive R55_ai10rzp_bii where
 | o0 (y:Bool) (y_1 y_2:Int)
noncomputable def R55_ai10rzp_bii.st : R55_ai10rzp_bii → V × List O × List O
 | .o0 y y_1 y_2 => (.p (.bool y),[.box 79 [.p (.int .i64 y_1),.p (.int .u32 y_2)]],[])
noncomputable def f55_ai10rzp_bii_e (k:Nat) (a0 a0_1 a0_2 a0_3 a0_4 a0_5 a0_6 a0_7 a0_8 a0_9:Int) (a0_10:List Int) (e0 e0_1:Int) : Option R55_ai10rzp_bii :=
 Option.bind (f37_ai10rz k a0 a0_1 a0_2 a0_3 a0_4 a0_5 a0_6 a0_7 a0_8 a0_9 a0_10) fun o1 =>
  match o1 with
  | .o0 v4 v5 =>
   some (R55_ai10rzp_bii.o0 (((v4 == e0) && (v5 == e0_1))) e0 e0_1)
theorem f55_ai10rzp_bii_e_ok (k:Nat) (a0 a0_1 a0_2 a0_3 a0_4 a0_5 a0_6 a0_7 a0_8 a0_9:Int) (a0_10:List Int) (e0 e0_1:Int) (r:R55_ai10rzp_bii) (hF:f55_ai10rzp_bii_e k a0 a0_1 a0_2 a0_3 a0_4 a0_5 a0_6 a0_7 a0_8 a0_9 a0_10 e0 e0_1 = some r) : finK Try.prog Try.f55 1 (EX 55 k (nav B55 []) (⟨8,[(0,.agg [.p (.int .i64 a0),.p (.int .i64 a0_1),.p (.int .u32 a0_2),.p (.int .i64 a0_3),.p (.int .i64 a0_4),.p (.int .i64 a0_5),.p (.int .i64 a0_6),.p (.int .i64 a0_7),.p (.int .i64 a0_8),.p (.int .i64 a0_9),.sl 1 (rowsOf (encI .u8) a0_10)]),(1,.ptr 1000000 0)],[(1000000,.box 79 [.p (.int .i64 e0),.p (.int .u32 e0_1)])]⟩ : St)) = some r.st := by
 unfold f55_ai10rzp_bii_e at hF
 obtain ⟨o1,h2,hF⟩ := bs hF
 have hc3 := f37_ai10rz_ok k a0 a0_1 a0_2 a0_3 a0_4 a0_5 a0_6 a0_7 a0_8 a0_9 a0_10 _ h2
 cases o1 with
 | o0 v4 v5 =>
  (try dsimp only at hF)
  (try simp only [NM,EE,R37_ai10rz.st] at hc3)
  cases hF
  simp (maxSteps:=999999) (disch:=first|exact D (by decide)|exact K (by kernel_rfl)) only [E,EE,↓reduceIte,simprocAttr,xk B55 [] .sq rfl,rg B55 [1] 0 false rfl,hr_55_0,xk B55 [2] .sq rfl,rg B55 [1,2] 1 true rfl,hr_55_1,t_39,callStep,CL,gv,List.contains,t_79,ag_79,t_3,t_22,xk B55 [2,2] .rt rfl,finK_norm,finK_ret,fin55,R55_ai10rzp_bii.st,hc3]
noncomputable def f55_ai10rzp_bii (k:Nat) (a0 a0_1 a0_2 a0_3 a0_4 a0_5 a0_6 a0_7 a0_8 a0_9:Int) (a0_10:List Int) (e0 e0_1:Int) : Option R55_ai10rzp_bii := match k with | 0 => none | k + 1 => f55_ai10rzp_bii_e k a0 a0_1 a0_2 a0_3 a0_4 a0_5 a0_6 a0_7 a0_8 a0_9 a0_10 e0 e0_1
theorem f55_ai10rzp_bii_ok (k:Nat) (a0 a0_1 a0_2 a0_3 a0_4 a0_5 a0_6 a0_7 a0_8 a0_9:Int) (a0_10:List Int) (e0 e0_1:Int) (r:R55_ai10rzp_bii) (hF:f55_ai10rzp_bii k a0 a0_1 a0_2 a0_3 a0_4 a0_5 a0_6 a0_7 a0_8 a0_9 a0_10 e0 e0_1 = some r) : CV k 55 [.agg [.p (.int .i64 a0),.p (.int .i64 a0_1),.p (.int .u32 a0_2),.p (.int .i64 a0_3),.p (.int .i64 a0_4),.p (.int .i64 a0_5),.p (.int .i64 a0_6),.p (.int .i64 a0_7),.p (.int .i64 a0_8),.p (.int .i64 a0_9),.sl 1 (rowsOf (encI .u8) a0_10)],.ptr 1000000 0] [.box 79 [.p (.int .i64 e0),.p (.int .u32 e0_1)]] = some r.st := by
 cases k with
 | zero => cases hF
 | succ k =>
  unfold CV
  rw [ev_call (F := Try.f55) (c := (nav B55 [])) rfl Try.func55 rfl rfl rfl rfl]
  exact f55_ai10rzp_bii_e_ok k a0 a0_1 a0_2 a0_3 a0_4 a0_5 a0_6 a0_7 a0_8 a0_9 a0_10 e0 e0_1 r hF
-- f61_oF55p_wbii: f61 slices.IndexFunc[[]heliograph/api.Bundle,heliograph/api.Bundle]
inductive R61_oF55p_wbii where
 | o0 (y:Int) (y_1:List T39) (y_2 y_3:Int)
noncomputable def R61_oF55p_wbii.st : R61_oF55p_wbii → V × List O × List O
 | .o0 y y_1 y_2 y_3 => (.p (.int .i64 y),[.row true 11 39 (rowsOf encT39 y_1),.box 79 [.p (.int .i64 y_2),.p (.int .u32 y_3)]],[])
inductive R61_oF55p_wbii_l1 where
 | o0 (y:Int) (y_1:List T39) (y_2 y_3:Int)
 | o1 (y y_1:Int) (y_2:List T39) (y_3 y_4:Int)
 | o2 (y y_1:Int) (y_2:Bool) (y_3:List T39) (y_4 y_5:Int)
noncomputable def R61_oF55p_wbii_l1.st : R61_oF55p_wbii_l1 → Out × St
 | .o0 y y_1 y_2 y_3 => (.ret,(⟨19,[(4,.p (.int .i64 y))],[(1000000,.row true 11 39 (rowsOf encT39 y_1)),(1000001,.box 79 [.p (.int .i64 y_2),.p (.int .u32 y_3)])]⟩ : St))
 | .o1 y y_1 y_2 y_3 y_4 => (.norm,(⟨19,[(0,.own 1000000),(1,V.fn 55 [.ptr 1000001 0]),(7,.p (.int .i64 y)),(8,.p (.int .i64 y_1))],[(1000000,.row true 11 39 (rowsOf encT39 y_2)),(1000001,.box 79 [.p (.int .i64 y_3),.p (.int .u32 y_4)])]⟩ : St))
 | .o2 y y_1 y_2 y_3 y_4 y_5 => (.exit 0,(⟨19,[(0,.own 1000000),(1,V.fn 55 [.ptr 1000001 0]),(7,.p (.int .i64 y)),(8,.p (.int .i64 y_1)),(9,.p (.bool y_2))],[(1000000,.row true 11 39 (rowsOf encT39 y_3)),(1000001,.box 79 [.p (.int .i64 y_4),.p (.int .u32 y_5)])]⟩ : St))
noncomputable def f61_oF55p_wbii_l1_j2 (k:Nat) (x5 x7 x8:Int) (x16:Bool) (e0:List T39) (e1 e1_1:Int) : Option R61_oF55p_wbii_l1 :=
 some (R61_oF55p_wbii_l1.o1 x7 (IntKind.i64.wrap (x8 + (1:Int))) e0 e1 e1_1)
theorem f61_oF55p_wbii_l1_j2_ok (k:Nat) (x5 x7 x8:Int) (x16:Bool) (e0:List T39) (e1 e1_1:Int) (r:R61_oF55p_wbii_l1) (hF:f61_oF55p_wbii_l1_j2 k x5 x7 x8 x16 e0 e1 e1_1 = some r) : EX 61 k (nav B61 [2,2,2,1,2,2,1,2]) (⟨19,[(0,.own 1000000),(1,V.fn 55 [.ptr 1000001 0]),(5,.p (.int .i64 x5)),(7,.p (.int .i64 x7)),(8,.p (.int .i64 x8)),(16,.p (.bool x16))],[(1000000,.row true 11 39 (rowsOf encT39 e0)),(1000001,.box 79 [.p (.int .i64 e1),.p (.int .u32 e1_1)])]⟩ : St) = some r.st := by
 unfold f61_oF55p_wbii_l1_j2 at hF
 cases hF
 simp (maxSteps:=999999) (disch:=first|exact D (by decide)|exact K (by kernel_rfl)) only [E,EE,↓reduceIte,simprocAttr,rg B61 [2,2,2,1,2,2,1,2] 6 false rfl,hr_61_6,R61_oF55p_wbii_l1.st]
noncomputable def f61_oF55p_wbii_l1_j1 (k:Nat) (x7 x8:Int) (x9:Bool) (e0:List T39) (e1 e1_1:Int) : Option R61_oF55p_wbii_l1 :=
 ifE ((0:Int) ≤ x8) (
  ifE (x8 < ((List.length e0) : Int)) (
   Option.bind (e0[(Int.toNat x8)]?) fun v3 =>
    Option.bind (f55_ai10rzp_bii k v3.Source v3.Dest v3.Seq v3.Created v3.Lifetime v3.HopLimit v3.Hops v3.Priority v3.Offset v3.Total v3.Payload e1 e1_1) fun o5 =>
     match o5 with
     | .o0 v8 v9 v10 =>
      cond (v8)
       (some (R61_oF55p_wbii_l1.o0 x8 e0 v9 v10))
       (f61_oF55p_wbii_l1_j2 k x8 x7 x8 false e0 v9 v10)))
theorem f61_oF55p_wbii_l1_j1_ok (k:Nat) (x7 x8:Int) (x9:Bool) (e0:List T39) (e1 e1_1:Int) (r:R61_oF55p_wbii_l1) (hF:f61_oF55p_wbii_l1_j1 k x7 x8 x9 e0 e1 e1_1 = some r) : EX 61 k (nav B61 [2,2,1,2,2,1,2]) (⟨19,[(0,.own 1000000),(1,V.fn 55 [.ptr 1000001 0]),(7,.p (.int .i64 x7)),(8,.p (.int .i64 x8)),(9,.p (.bool x9))],[(1000000,.row true 11 39 (rowsOf encT39 e0)),(1000001,.box 79 [.p (.int .i64 e1),.p (.int .u32 e1_1)])]⟩ : St) = some r.st := by
 unfold f61_oF55p_wbii_l1_j1 at hF
 obtain ⟨h1,hF⟩ := ifE_some.1 hF
 obtain ⟨h2,hF⟩ := ifE_some.1 hF
 obtain ⟨v3,h4,hF⟩ := bs hF
 obtain ⟨o5,h6,hF⟩ := bs hF
 have hc7 := f55_ai10rzp_bii_ok k v3.Source v3.Dest v3.Seq v3.Created v3.Lifetime v3.HopLimit v3.Hops v3.Priority v3.Offset v3.Total v3.Payload e1 e1_1 _ h6
 cases o5 with
 | o0 v8 v9 v10 =>
  (try dsimp only at hF)
  (try simp only [NM,EE,R55_ai10rzp_bii.st] at hc7)
  simp (maxSteps:=999999) (disch:=first|exact D (by decide)|exact K (by kernel_rfl)) only [E,EE,↓reduceIte,simprocAttr,xk B61 [2,2,1,2,2,1,2] .sq rfl,xk B61 [1,2,2,1,2,2,1,2] (.bk 1) rfl,xk B61 [2,1,2,2,1,2,2,1,2] .sq rfl,rg B61 [1,2,1,2,2,1,2,2,1,2] 3 false rfl,hr_61_3,xk B61 [2,2,1,2,2,1,2,2,1,2] .sq rfl,rg B61 [1,2,2,1,2,2,1,2,2,1,2] 4 false rfl,hr_61_4,indexAddrV,t_24,t_39,encT39_eq,callStep,CL,gv,List.contains,xk B61 [2,2,2,1,2,2,1,2,2,1,2] (.cd 16) rfl,h1,h2,h4,hc7]
  rcases cond_some hF with ⟨h11,hF⟩ | ⟨h11,hF⟩
  ·cases hF
   simp (maxSteps:=999999) (disch:=first|exact D (by decide)|exact K (by kernel_rfl)) only [E,EE,↓reduceIte,simprocAttr,xk B61 [2,2,2,2,1,2,2,1,2,2,1,2] .sq rfl,rg B61 [1,2,2,2,2,1,2,2,1,2,2,1,2] 5 false rfl,hr_61_5,xk B61 [2,2,2,2,2,1,2,2,1,2,2,1,2] .rt rfl,R61_oF55p_wbii_l1.st,h1,h2,h4,hc7,h11]
  ·have hJ := f61_oF55p_wbii_l1_j2_ok k x8 x7 x8 false e0 v9 v10 _ hF
   simp (maxSteps:=999999) (disch:=first|exact D (by decide)|exact K (by kernel_rfl)) only [E,EE,↓reduceIte,simprocAttr,xk B61 [3,2,2,2,1,2,2,1,2,2,1,2] .sk rfl,h1,h2,h4,hc7,h11]
   try simp only [NM,EE] at hJ
   exact hJ
noncomputable def f61_oF55p_wbii_l1_b (k:Nat) (x7 x8:Int) (e0:List T39) (e1 e1_1:Int) : Option R61_oF55p_wbii_l1 :=
 cond ((decide (x8 < x7)))
  (f61_oF55p_wbii_l1_j1 k x7 x8 true e0 e1 e1_1)
  (some (R61_oF55p_wbii_l1.o2 x7 x8 false e0 e1 e1_1))
theorem f61_oF55p_wbii_l1_b_ok (k:Nat) (x7 x8:Int) (e0:List T39) (e1 e1_1:Int) (r:R61_oF55p_wbii_l1) (hF:f61_oF55p_wbii_l1_b k x7 x8 e0 e1 e1_1 = some r) : EX 61 k (nav B61 [1,2,2,1,2]) (⟨19,[(0,.own 1000000),(1,V.fn 55 [.ptr 1000001 0]),(7,.p (.int .i64 x7)),(8,.p (.int .i64 x8))],[(1000000,.row true 11 39 (rowsOf encT39 e0)),(1000001,.box 79 [.p (.int .i64 e1),.p (.int .u32 e1_1)])]⟩ : St) = some r.st := by
 unfold f61_oF55p_wbii_l1_b at hF
 simp (maxSteps:=999999) (disch:=first|exact D (by decide)|exact K (by kernel_rfl)) only [E,EE,↓reduceIte,simprocAttr,xk B61 [1,2,2,1,2] .sq rfl,rg B61 [1,1,2,2,1,2] 2 false rfl,hr_61_2,xk B61 [2,1,2,2,1,2] .sq rfl,xk B61 [1,2,1,2,2,1,2] (.cd 9) rfl]
 rcases cond_some hF with ⟨h1,hF⟩ | ⟨h1,hF⟩
 ·have hJ := f61_oF55p_wbii_l1_j1_ok k x7 x8 true e0 e1 e1_1 _ hF
  simp (maxSteps:=999999) (disch:=first|exact D (by decide)|exact K (by kernel_rfl)) only [E,EE,↓reduceIte,simprocAttr,xk B61 [2,1,2,1,2,2,1,2] .sk rfl,h1]
  try simp only [NM,EE] at hJ
  exact hJ
 ·cases hF
  simp (maxSteps:=999999) (disch:=first|exact D (by decide)|exact K (by kernel_rfl)) only [E,EE,↓reduceIte,simprocAttr,xk B61 [3,1,2,1,2,2,1,2] (.ex 0) rfl,R61_oF55p_wbii_l1.st,h1]
noncomputable def f61_oF55p_wbii_l1 (k:Nat) : Nat → Int → Int → (List T39) → Int → Int → Option R61_oF55p_wbii_l1
 | 0,_,_,_,_,_ => none
 | n + 1,x7,x8,e0,e1,e1_1 => Option.bind (f61_oF55p_wbii_l1_b k x7 x8 e0 e1 e1_1) fun o =>
  match o with
  | .o0 y y_1 y_2 y_3 => some (.o0 y y_1 y_2 y_3)
  | .o1 y y_1 y_2 y_3 y_4 => f61_oF55p_wbii_l1 k n y y_1 y_2 y_3 y_4
  | .o2 y y_1 y_2 y_3 y_4 y_5 => some (.o2 y y_1 y_2 y_3 y_4 y_5)
theorem f61_oF55p_wbii_l1_ok (k n:Nat) : ∀ (x7 x8:Int) (e0:List T39) (e1 e1_1:Int) (r:R61_oF55p_wbii_l1) (hF:f61_oF55p_wbii_l1 k n x7 x8 e0 e1 e1_1 = some r) (σ:St) (hσ:headR (hints.head 61 2) (hints.canon 61 2) σ = some (⟨19,[(0,.own 1000000),(1,V.fn 55 [.ptr 1000001 0]),(7,.p (.int .i64 x7)),(8,.p (.int .i64 x8))],[(1000000,.row true 11 39 (rowsOf encT39 e0)),(1000001,.box 79 [.p (.int .i64 e1),.p (.int .u32 e1_1)])]⟩ : St)),LP 61 k (nav B61 [1,2,2,1,2]) n σ = some r.st := by
 induction n with
 | zero => intro x7 x8 e0 e1 e1_1 r hF; cases hF
 | succ n ih =>
  intro x7 x8 e0 e1 e1_1 r hF σ hσ
  rw [f61_oF55p_wbii_l1] at hF
  obtain ⟨o,h,hF⟩ := Option.bind_eq_some_iff.1 hF
  have hB := f61_oF55p_wbii_l1_b_ok k x7 x8 e0 e1 e1_1 o h
  unfold LP at ih ⊢
  unfold EX at hB
  rw [loopK_succ,show firstReg (nav B61 [1,2,2,1,2]) = 2 from rfl,hσ,headK_some,hB]
  cases o with
  | o0 y y_1 y_2 y_3 => cases hF; rfl
  | o1 y y_1 y_2 y_3 y_4 =>
   refine ih y y_1 y_2 y_3 y_4 r hF _ ?_
   simp (maxSteps:=999999) (disch:=first|exact D (by decide)|exact K (by kernel_rfl)) only [E,EE,↓reduceIte,simprocAttr,hh_61_2,hc_61_2]
  | o2 y y_1 y_2 y_3 y_4 y_5 => cases hF; rfl
noncomputable def f61_oF55p_wbii_j2 (k:Nat) (x7 x8:Int) (x9:Bool) (e0:List T39) (e1 e1_1:Int) : Option R61_oF55p_wbii :=
 some (R61_oF55p_wbii.o0 (-1) e0 e1 e1_1)
theorem f61_oF55p_wbii_j2_ok (k:Nat) (x7 x8:Int) (x9:Bool) (e0:List T39) (e1 e1_1:Int) (r:R61_oF55p_wbii) (hF:f61_oF55p_wbii_j2 k x7 x8 x9 e0 e1 e1_1 = some r) : finK Try.prog Try.f61 2 (EX 61 k (nav B61 [2,2]) (⟨19,[(0,.own 1000000),(1,V.fn 55 [.ptr 1000001 0]),(7,.p (.int .i64 x7)),(8,.p (.int .i64 x8)),(9,.p (.bool x9))],[(1000000,.row true 11 39 (rowsOf encT39 e0)),(1000001,.box 79 [.p (.int .i64 e1),.p (.int .u32 e1_1)])]⟩ : St)) = some r.st := by
 unfold f61_oF55p_wbii_j2 at hF
 cases hF
 simp (maxSteps:=999999) (disch:=first|exact D (by decide)|exact K (by kernel_rfl)) only [E,EE,↓reduceIte,simprocAttr,xk B61 [2,2] .sq rfl,rg B61 [1,2,2] 7 false rfl,hr_61_7,xk B61 [2,2,2] .rt rfl,finK_norm,finK_ret,fin61,R61_oF55p_wbii.st]
noncomputable def f61_oF55p_wbii_e (k:Nat) (e0:List T39) (e1 e1_1:Int) : Option R61_oF55p_wbii :=
 Option.bind (f61_oF55p_wbii_l1 k k ((List.length e0) : Int) 0 e0 e1 e1_1) fun o1 =>
  match o1 with
  | .o0 v4 v5 v6 v7 =>
   some (R61_oF55p_wbii.o0 v4 v5 v6 v7)
  | .o1 _ _ _ _ _ =>
   none
  | .o2 v8 v9 v10 v11 v12 v13 =>
   f61_oF55p_wbii_j2 k v8 v9 v10 v11 v12 v13
theorem f61_oF55p_wbii_e_ok (k:Nat) (e0:List T39) (e1 e1_1:Int) (r:R61_oF55p_wbii) (hF:f61_oF55p_wbii_e k e0 e1 e1_1 = some r) : finK Try.prog Try.f61 2 (EX 61 k (nav B61 []) (⟨19,[(0,.own 1000000),(1,V.fn 55 [.ptr 1000001 0])],[(1000000,.row true 11 39 (rowsOf encT39 e0)),(1000001,.box 79 [.p (.int .i64 e1),.p (.int .u32 e1_1)])]⟩ : St)) = some r.st := by
 unfold f61_oF55p_wbii_e at hF
 obtain ⟨o1,h2,hF⟩ := bs hF
 have hc3 := f61_oF55p_wbii_l1_ok k k ((List.length e0) : Int) 0 e0 e1 e1_1 _ h2
 simp (maxSteps:=999999) (disch:=first|exact D (by decide)|exact K (by kernel_rfl)) only [E,EE,↓reduceIte,simprocAttr,xk B61 [] .sq rfl,rg B61 [1] 0 false rfl,hr_61_0,xk B61 [2] .sq rfl,xk B61 [1,2] .sq rfl,rg B61 [1,1,2] 1 false rfl,hr_61_1,t_24,xk B61 [2,1,2] (.bk 0) rfl,xk B61 [2,2,1,2] .lp rfl,hh_61_2,hc_61_2]
 (try simp only [NM,EE] at hc3)
 rw [hc3 _ (by simp (maxSteps:=999999) (disch:=first|exact D (by decide)|exact K (by kernel_rfl)) only [E,EE,↓reduceIte,simprocAttr,hh_61_2,hc_61_2])]
 clear hc3
 cases o1 with
 | o0 v4 v5 v6 v7 =>
  (try dsimp only at hF)
  cases hF
  simp (maxSteps:=999999) (disch:=first|exact D (by decide)|exact K (by kernel_rfl)) only [E,EE,↓reduceIte,simprocAttr,R61_oF55p_wbii_l1.st,finK_norm,finK_ret,fin61,R61_oF55p_wbii.st]
 | o1 _ _ _ _ _ =>
  (try dsimp only at hF)
  cases hF
 | o2 v8 v9 v10 v11 v12 v13 =>
  (try dsimp only at hF)
  have hJ := f61_oF55p_wbii_j2_ok k v8 v9 v10 v11 v12 v13 _ hF
  simp (maxSteps:=999999) (disch:=first|exact D (by decide)|exact K (by kernel_rfl)) only [E,EE,↓reduceIte,simprocAttr,R61_oF55p_wbii_l1.st]
  try simp only [NM,EE] at hJ
  exact hJ
noncomputable def f61_oF55p_wbii (k:Nat) (e0:List T39) (e1 e1_1:Int) : Option R61_oF55p_wbii := match k with | 0 => none | k + 1 => f61_oF55p_wbii_e k e0 e1 e1_1
theorem f61_oF55p_wbii_ok (k:Nat) (e0:List T39) (e1 e1_1:Int) (r:R61_oF55p_wbii) (hF:f61_oF55p_wbii k e0 e1 e1_1 = some r) : CV k 61 [.own 1000000,V.fn 55 [.ptr 1000001 0]] [.row true 11 39 (rowsOf encT39 e0),.box 79 [.p (.int .i64 e1),.p (.int .u32 e1_1)]] = some r.st := by
 cases k with
 | zero => cases hF
 | succ k =>
  unfold CV
  rw [ev_call (F := Try.f61) (c := (nav B61 [])) rfl Try.func61 rfl rfl rfl rfl]
  exact f61_oF55p_wbii_e_ok k e0 e1 e1_1 r hF
-- f42_oF55p_wbii: f42 slices.DeleteFunc[[]heliograph/api.Bundle,heliograph/api.Bundle]
inductive R42_oF55p_wbii where
 | o0 (y:List T39) (y_1 y_2:Int)
 | o1 (y y_1:Nat) (y_2:List T39) (y_3 y_4:Int)
noncomputable def R42_oF55p_wbii.st : R42_oF55p_wbii → V × List O × List O
 | .o0 y y_1 y_2 => (.own 1000000,[.row true 11 39 (rowsOf encT39 y),.box 79 [.p (.int .i64 y_1),.p (.int .u32 y_2)]],[])
 | .o1 y y_1 y_2 y_3 y_4 => (V.cut 1000000 11 y y_1,[.row true 11 39 (rowsOf encT39 y_2),.box 79 [.p (.int .i64 y_3),.p (.int .u32 y_4)]],[])
inductive R42_oF55p_wbii_l2 where
 | o0 (y y_1:Int) (y_2:List T39) (y_3 y_4:Int)
 | o1 (y y_1:Int) (y_2:Bool) (y_3:List T39) (y_4 y_5:Int)
noncomputable def R42_oF55p_wbii_l2.st : R42_oF55p_wbii_l2 → Out × St
 | .o0 y y_1 y_2 y_3 y_4 => (.norm,(⟨42,[(0,.own 1000000),(1,V.fn 55 [.ptr 1000001 0]),(5,.p (.int .i64 y)),(6,.p (.int .i64 y_1))],[(1000000,.row true 11 39 (rowsOf encT39 y_2)),(1000001,.box 79 [.p (.int .i64 y_3),.p (.int .u32 y_4)])]⟩ : St))
 | .o1 y y_1 y_2 y_3 y_4 y_5 => (.exit 0,(⟨42,[(0,.own 1000000),(1,V.fn 55 [.ptr 1000001 0]),(5,.p (.int .i64 y)),(6,.p (.int .i64 y_1)),(19,.p (.bool y_2))],[(1000000,.row true 11 39 (rowsOf encT39 y_3)),(1000001,.box 79 [.p (.int .i64 y_4),.p (.int .u32 y_5)])]⟩ : St))
noncomputable def f42_oF55p_wbii_l2_j2 (k:Nat) (x5 x6:Int) (e0:List T39) (e1 e1_1:Int) : Option R42_oF55p_wbii_l2 :=
 some (R42_oF55p_wbii_l2.o0 x5 (IntKind.i64.wrap (x6 + (1:Int))) e0 e1 e1_1)
theorem f42_oF55p_wbii_l2_j2_ok (k:Nat) (x5 x6:Int) (e0:List T39) (e1 e1_1:Int) (r:R42_oF55p_wbii_l2) (hF:f42_oF55p_wbii_l2_j2 k x5 x6 e0 e1 e1_1 = some r) : EX 42 k (nav B42 [2,2,1,2,2,1,2,2,2]) (⟨42,[(0,.own 1000000),(1,V.fn 55 [.ptr 1000001 0]),(5,.p (.int .i64 x5)),(6,.p (.int .i64 x6))],[(1000000,.row true 11 39 (rowsOf encT39 e0)),(1000001,.box 79 [.p (.int .i64 e1),.p (.int .u32 e1_1)])]⟩ : St) = some r.st := by
 unfold f42_oF55p_wbii_l2_j2 at hF
 cases hF
 simp (maxSteps:=999999) (disch:=first|exact D (by decide)|exact K (by kernel_rfl)) only [E,EE,↓reduceIte,simprocAttr,rg B42 [2,2,1,2,2,1,2,2,2] 6 false rfl,hr_42_6,R42_oF55p_wbii_l2.st]
noncomputable def f42_oF55p_wbii_l2_j3 (k:Nat) (x5 x6:Int) (x29:Bool) (e0:List T39) (e1 e1_1 m7 m7_1 m7_2 m7_3 m7_4 m7_5 m7_6 m7_7 m7_8 m7_9:Int) (m7_10:List Int) : Option R42_oF55p_wbii_l2 :=
 some (R42_oF55p_wbii_l2.o0 x5 (IntKind.i64.wrap (x6 + (1:Int))) e0 e1 e1_1)
theorem f42_oF55p_wbii_l2_j3_ok (k:Nat) (x5 x6:Int) (x29:Bool) (e0:List T39) (e1 e1_1 m7 m7_1 m7_2 m7_3 m7_4 m7_5 m7_6 m7_7 m7_8 m7_9:Int) (m7_10:List Int) (r:R42_oF55p_wbii_l2) (hF:f42_oF55p_wbii_l2_j3 k x5 x6 x29 e0 e1 e1_1 m7 m7_1 m7_2 m7_3 m7_4 m7_5 m7_6 m7_7 m7_8 m7_9 m7_10 = some r) : EX 42 k (nav B42 [2,2,1,2,2,1,2,2,2]) (⟨42,[(0,.own 1000000),(1,V.fn 55 [.ptr 1000001 0]),(5,.p (.int .i64 x5)),(6,.p (.int .i64 x6)),(7,.ptr 7 0),(29,.p (.bool x29))],[(1000000,.row true 11 39 (rowsOf encT39 e0)),(1000001,.box 79 [.p (.int .i64 e1),.p (.int .u32 e1_1)]),(7,.box 39 [.p (.int .i64 m7),.p (.int .i64 m7_1),.p (.int .u32 m7_2),.p (.int .i64 m7_3),.p (.int .i64 m7_4),.p (.int .i64 m7_5),.p (.int .i64 m7_6),.p (.int .i64 m7_7),.p (.int .i64 m7_8),.p (.int .i64 m7_9),.sl 1 (rowsOf (encI .u8) m7_10)])]⟩ : St) = some r.st := by
 unfold f42_oF55p_wbii_l2_j3 at hF
 cases hF
 simp (maxSteps:=999999) (disch:=first|exact D (by decide)|exact K (by kernel_rfl)) only [E,EE,↓reduceIte,simprocAttr,rg B42 [2,2,1,2,2,1,2,2,2] 6 false rfl,hr_42_6,R42_oF55p_wbii_l2.st]
noncomputable def f42_oF55p_wbii_l2_j1 (k:Nat) (x5 x6:Int) (x19:Bool) (e0:List T39) (e1 e1_1:Int) : Option R42_oF55p_wbii_l2 :=
 ifE ((0:Int) ≤ x6) (
  ifE (x6 < ((List.length e0) : Int)) (
   Option.bind (e0[(Int.toNat x6)]?) fun v3 =>
    Option.bind (f55_ai10rzp_bii k v3.Source v3.Dest v3.Seq v3.Created v3.Lifetime v3.HopLimit v3.Hops v3.Priority v3.Offset v3.Total v3.Payload e1 e1_1) fun o5 =>
     match o5 with
     | .o0 v8 v9 v10 =>
      cond ((!v8))
       (
        ifE ((0:Int) ≤ x5) (
         ifE (x5 < ((List.length e0) : Int)) (
          Option.bind (e0[(Int.toNat x5)]?) fun v14 =>
           f42_oF55p_wbii_l2_j2 k (IntKind.i64.wrap (x5 + (1:Int))) x6 (List.set e0 (Int.toNat x5) v3) v9 v10)))
       (f42_oF55p_wbii_l2_j3 k x5 x6 false e0 v9 v10 v3.Source v3.Dest v3.Seq v3.Created v3.Lifetime v3.HopLimit v3.Hops v3.Priority v3.Offset v3.Total v3.Payload)))
theorem f42_oF55p_wbii_l2_j1_ok (k:Nat) (x5 x6:Int) (x19:Bool) (e0:List T39) (e1 e1_1:Int) (r:R42_oF55p_wbii_l2) (hF:f42_oF55p_wbii_l2_j1 k x5 x6 x19 e0 e1 e1_1 = some r) : EX 42 k (nav B42 [2,1,2,2,1,2,2,2]) (⟨42,[(0,.own 1000000),(1,V.fn 55 [.ptr 1000001 0]),(5,.p (.int .i64 x5)),(6,.p (.int .i64 x6)),(19,.p (.bool x19))],[(1000000,.row true 11 39 (rowsOf encT39 e0)),(1000001,.box 79 [.p (.int .i64 e1),.p (.int .u32 e1_1)])]⟩ : St) = some r.st := by
 unfold f42_oF55p_wbii_l2_j1 at hF
 obtain ⟨h1,hF⟩ := ifE_some.1 hF
 obtain ⟨h2,hF⟩ := ifE_some.1 hF
 obtain ⟨v3,h4,hF⟩ := bs hF
 obtain ⟨o5,h6,hF⟩ := bs hF
 have hc7 := f55_ai10rzp_bii_ok k v3.Source v3.Dest v3.Seq v3.Created v3.Lifetime v3.HopLimit v3.Hops v3.Priority v3.Offset v3.Total v3.Payload e1 e1_1 _ h6
 cases o5 with
 | o0 v8 v9 v10 =>
  (try dsimp only at hF)
  (try simp only [NM,EE,R55_ai10rzp_bii.st] at hc7)
  simp (maxSteps:=999999) (disch:=first|exact D (by decide)|exact K (by kernel_rfl)) only [E,EE,↓reduceIte,simprocAttr,xk B42 [2,1,2,2,1,2,2,2] .sq rfl,xk B42 [1,2,1,2,2,1,2,2,2] (.bk 1) rfl,xk B42 [2,1,2,1,2,2,1,2,2,2] .sq rfl,rg B42 [1,2,1,2,1,2,2,1,2,2,2] 7 false rfl,hr_42_7,indexAddrV,t_24,t_39,encT39_eq,xk B42 [2,2,1,2,1,2,2,1,2,2,2] .sq rfl,rg B42 [1,2,2,1,2,1,2,2,1,2,2,2] 8 false rfl,hr_42_8,callStep,CL,gv,List.contains,xk B42 [2,2,2,1,2,1,2,2,1,2,2,2] (.cd 29) rfl,h1,h2,h4,hc7]
  rcases cond_some hF with ⟨h11,hF⟩ | ⟨h11,hF⟩
  ·obtain ⟨h12,hF⟩ := ifE_some.1 hF
   obtain ⟨h13,hF⟩ := ifE_some.1 hF
   obtain ⟨v14,h15,hF⟩ := bs hF
   have q16 : List.set (rowsOf encT39 e0) (Int.toNat x5) [.p (.int .i64 v3.Source),.p (.int .i64 v3.Dest),.p (.int .u32 v3.Seq),.p (.int .i64 v3.Created),.p (.int .i64 v3.Lifetime),.p (.int .i64 v3.HopLimit),.p (.int .i64 v3.Hops),.p (.int .i64 v3.Priority),.p (.int .i64 v3.Offset),.p (.int .i64 v3.Total),.sl 1 (rowsOf (encI .u8) v3.Payload)] = rowsOf encT39 (List.set e0 (Int.toNat x5) v3) := (rowsOf_set (enc := encT39) (l := e0) (i := (Int.toNat x5)) (x := v3)).symm
   have hJ := f42_oF55p_wbii_l2_j2_ok k (IntKind.i64.wrap (x5 + (1:Int))) x6 (List.set e0 (Int.toNat x5) v3) v9 v10 _ hF
   simp (maxSteps:=999999) (disch:=first|exact D (by decide)|exact K (by kernel_rfl)) only [E,EE,↓reduceIte,simprocAttr,xk B42 [2,2,2,2,1,2,1,2,2,1,2,2,2] .sq rfl,rg B42 [1,2,2,2,2,1,2,1,2,2,1,2,2,2] 9 false rfl,hr_42_9,t_39,indexAddrV,t_24,sm_39,encT39_eq,rg B42 [2,2,2,2,2,1,2,1,2,2,1,2,2,2] 10 false rfl,hr_42_10,h1,h2,h4,hc7,h11,h12,h13,h15,q16]
   try simp only [NM,EE] at hJ
   exact hJ
  ·have hJ := f42_oF55p_wbii_l2_j3_ok k x5 x6 false e0 v9 v10 v3.Source v3.Dest v3.Seq v3.Created v3.Lifetime v3.HopLimit v3.Hops v3.Priority v3.Offset v3.Total v3.Payload _ hF
   simp (maxSteps:=999999) (disch:=first|exact D (by decide)|exact K (by kernel_rfl)) only [E,EE,↓reduceIte,simprocAttr,xk B42 [3,2,2,2,1,2,1,2,2,1,2,2,2] .sk rfl,h1,h2,h4,hc7,h11]
   try simp only [NM,EE] at hJ
   exact hJ
noncomputable def f42_oF55p_wbii_l2_b (k:Nat) (x5 x6:Int) (e0:List T39) (e1 e1_1:Int) : Option R42_oF55p_wbii_l2 :=
 cond ((decide (x6 < ((List.length e0) : Int))))
  (f42_oF55p_wbii_l2_j1 k x5 x6 true e0 e1 e1_1)
  (some (R42_oF55p_wbii_l2.o1 x5 x6 false e0 e1 e1_1))
theorem f42_oF55p_wbii_l2_b_ok (k:Nat) (x5 x6:Int) (e0:List T39) (e1 e1_1:Int) (r:R42_oF55p_wbii_l2) (hF:f42_oF55p_wbii_l2_b k x5 x6 e0 e1 e1_1 = some r) : EX 42 k (nav B42 [1,2,2,1,2,2,2]) (⟨42,[(0,.own 1000000),(1,V.fn 55 [.ptr 1000001 0]),(5,.p (.int .i64 x5)),(6,.p (.int .i64 x6))],[(1000000,.row true 11 39 (rowsOf encT39 e0)),(1000001,.box 79 [.p (.int .i64 e1),.p (.int .u32 e1_1)])]⟩ : St) = some r.st := by
 unfold f42_oF55p_wbii_l2_b at hF
 simp (maxSteps:=999999) (disch:=first|exact D (by decide)|exact K (by kernel_rfl)) only [E,EE,↓reduceIte,simprocAttr,xk B42 [1,2,2,1,2,2,2] .sq rfl,xk B42 [1,1,2,2,1,2,2,2] .sq rfl,rg B42 [1,1,1,2,2,1,2,2,2] 5 false rfl,hr_42_5,t_24,xk B42 [2,1,1,2,2,1,2,2,2] (.cd 19) rfl]
 rcases cond_some hF with ⟨h1,hF⟩ | ⟨h1,hF⟩
 ·have hJ := f42_oF55p_wbii_l2_j1_ok k x5 x6 true e0 e1 e1_1 _ hF
  simp (maxSteps:=999999) (disch:=first|exact D (by decide)|exact K (by kernel_rfl)) only [E,EE,↓reduceIte,simprocAttr,xk B42 [2,2,1,1,2,2,1,2,2,2] .sk rfl,h1]
  try simp only [NM,EE] at hJ
  exact hJ
 ·cases hF
  simp (maxSteps:=999999) (disch:=first|exact D (by decide)|exact K (by kernel_rfl)) only [E,EE,↓reduceIte,simprocAttr,xk B42 [3,2,1,1,2,2,1,2,2,2] (.ex 0) rfl,R42_oF55p_wbii_l2.st,h1]
noncomputable def f42_oF55p_wbii_l2 (k:Nat) : Nat → Int → Int → (List T39) → Int → Int → Option R42_oF55p_wbii_l2
 | 0,_,_,_,_,_ => none
 | n + 1,x5,x6,e0,e1,e1_1 => Option.bind (f42_oF55p_wbii_l2_b k x5 x6 e0 e1 e1_1) fun o =>
  match o with
  | .o0 y y_1 y_2 y_3 y_4 => f42_oF55p_wbii_l2 k n y y_1 y_2 y_3 y_4
  | .o1 y y_1 y_2 y_3 y_4 y_5 => some (.o1 y y_1 y_2 y_3 y_4 y_5)
theorem f42_oF55p_wbii_l2_ok (k n:Nat) : ∀ (x5 x6:Int) (e0:List T39) (e1 e1_1:Int) (r:R42_oF55p_wbii_l2) (hF:f42_oF55p_wbii_l2 k n x5 x6 e0 e1 e1_1 = some r) (σ:St) (hσ:headR (hints.head 42 5) (hints.canon 42 5) σ = some (⟨42,[(0,.own 1000000),(1,V.fn 55 [.ptr 1000001 0]),(5,.p (.int .i64 x5)),(6,.p (.int .i64 x6))],[(1000000,.row true 11 39 (rowsOf encT39 e0)),(1000001,.box 79 [.p (.int .i64 e1),.p (.int .u32 e1_1)])]⟩ : St)),LP 42 k (nav B42 [1,2,2,1,2,2,2]) n σ = some r.st := by
 induction n with
 | zero => intro x5 x6 e0 e1 e1_1 r hF; cases hF
 | succ n ih =>
  intro x5 x6 e0 e1 e1_1 r hF σ hσ
  rw [f42_oF55p_wbii_l2] at hF
  obtain ⟨o,h,hF⟩ := Option.bind_eq_some_iff.1 hF
  have hB := f42_oF55p_wbii_l2_b_ok k x5 x6 e0 e1 e1_1 o h
  unfold LP at ih ⊢
  unfold EX at hB
  rw [loopK_succ,show firstReg (nav B42 [1,2,2,1,2,2,2]) = 5 from rfl,hσ,headK_some,hB]
  cases o with
  | o0 y y_1 y_2 y_3 y_4 =>
   refine ih y y_1 y_2 y_3 y_4 r hF _ ?_
   simp (maxSteps:=999999) (disch:=first|exact D (by decide)|exact K (by kernel_rfl)) only [E,EE,↓reduceIte,simprocAttr,hh_42_5,hc_42_5]
  | o1 y y_1 y_2 y_3 y_4 y_5 => cases hF; rfl
noncomputable def f42_oF55p_wbii_j3 (k:Nat) (x5 x6:Int) (x19:Bool) (e0:List T39) (e1 e1_1:Int) : Option R42_oF55p_wbii :=
 ifE ((0:Int) ≤ x5) (
  ifE ((Int.toNat x5) ≤ (List.length e0)) (
   ifE (((Int.toNat x5) + ((List.length e0) - (Int.toNat x5))) ≤ (List.length e0)) (
    ifE ((Int.toNat x5) ≤ (List.length (((List.take (Int.toNat x5) e0) ++ (List.replicate (((List.length e0) - (Int.toNat x5))) ((T39.mk 0 0 0 0 0 0 0 0 0 0 []) : T39) ++ (List.drop (((Int.toNat x5) + ((List.length e0) - (Int.toNat x5)))) e0)))))) (
     some (R42_oF55p_wbii.o1 0 (Int.toNat x5) (((List.take (Int.toNat x5) e0) ++ (List.replicate (((List.length e0) - (Int.toNat x5))) ((T39.mk 0 0 0 0 0 0 0 0 0 0 []) : T39) ++ (List.drop (((Int.toNat x5) + ((List.length e0) - (Int.toNat x5)))) e0)))) e1 e1_1)))))
theorem f42_oF55p_wbii_j3_ok (k:Nat) (x5 x6:Int) (x19:Bool) (e0:List T39) (e1 e1_1:Int) (r:R42_oF55p_wbii) (hF:f42_oF55p_wbii_j3 k x5 x6 x19 e0 e1 e1_1 = some r) : finK Try.prog Try.f42 2 (EX 42 k (nav B42 [2,2,2,2]) (⟨42,[(0,.own 1000000),(1,V.fn 55 [.ptr 1000001 0]),(5,.p (.int .i64 x5)),(6,.p (.int .i64 x6)),(19,.p (.bool x19))],[(1000000,.row true 11 39 (rowsOf encT39 e0)),(1000001,.box 79 [.p (.int .i64 e1),.p (.int .u32 e1_1)])]⟩ : St)) = some r.st := by
 unfold f42_oF55p_wbii_j3 at hF
 obtain ⟨h1,hF⟩ := ifE_some.1 hF
 obtain ⟨h2,hF⟩ := ifE_some.1 hF
 obtain ⟨h3,hF⟩ := ifE_some.1 hF
 have q4 : List.replicate (((List.length e0) - (Int.toNat x5))) [.p (.int .i64 0),.p (.int .i64 0),.p (.int .u32 0),.p (.int .i64 0),.p (.int .i64 0),.p (.int .i64 0),.p (.int .i64 0),.p (.int .i64 0),.p (.int .i64 0),.p (.int .i64 0),.sl 1 []] = rowsOf encT39 (List.replicate (((List.length e0) - (Int.toNat x5))) ((T39.mk 0 0 0 0 0 0 0 0 0 0 []) : T39)) := (rowsOf_replicate (enc := encT39) (n := (((List.length e0) - (Int.toNat x5)))) (x := ((T39.mk 0 0 0 0 0 0 0 0 0 0 []) : T39))).symm
 obtain ⟨h5,hF⟩ := ifE_some.1 hF
 cases hF
 simp (maxSteps:=999999) (disch:=first|exact D (by decide)|exact K (by kernel_rfl)) only [E,EE,↓reduceIte,simprocAttr,xk B42 [2,2,2,2] .sq rfl,rg B42 [1,2,2,2,2] 11 false rfl,hr_42_11,sliceV,bound,t_24,t_39,clearV,sm_39,xk B42 [2,2,2,2,2] .sq rfl,rg B42 [1,2,2,2,2,2] 12 false rfl,hr_42_12,xk B42 [2,2,2,2,2,2] .rt rfl,finK_norm,finK_ret,fin42,R42_oF55p_wbii.st,h1,h2,h3,q4,h5]
noncomputable def f42_oF55p_wbii_j1 (k:Nat) (x5:Int) (x12:Bool) (e0:List T39) (e1 e1_1:Int) : Option R42_oF55p_wbii :=
 Option.bind (f42_oF55p_wbii_l2 k k x5 (IntKind.i64.wrap (x5 + (1:Int))) e0 e1 e1_1) fun o1 =>
  match o1 with
  | .o0 _ _ _ _ _ =>
   none
  | .o1 v4 v5 v6 v7 v8 v9 =>
   f42_oF55p_wbii_j3 k v4 v5 v6 v7 v8 v9
theorem f42_oF55p_wbii_j1_ok (k:Nat) (x5:Int) (x12:Bool) (e0:List T39) (e1 e1_1:Int) (r:R42_oF55p_wbii) (hF:f42_oF55p_wbii_j1 k x5 x12 e0 e1 e1_1 = some r) : finK Try.prog Try.f42 2 (EX 42 k (nav B42 [2,2,2]) (⟨42,[(0,.own 1000000),(1,V.fn 55 [.ptr 1000001 0]),(5,.p (.int .i64 x5)),(12,.p (.bool x12))],[(1000000,.row true 11 39 (rowsOf encT39 e0)),(1000001,.box 79 [.p (.int .i64 e1),.p (.int .u32 e1_1)])]⟩ : St)) = some r.st := by
 unfold f42_oF55p_wbii_j1 at hF
 obtain ⟨o1,h2,hF⟩ := bs hF
 have hc3 := f42_oF55p_wbii_l2_ok k k x5 (IntKind.i64.wrap (x5 + (1:Int))) e0 e1 e1_1 _ h2
 simp (maxSteps:=999999) (disch:=first|exact D (by decide)|exact K (by kernel_rfl)) only [E,EE,↓reduceIte,simprocAttr,xk B42 [2,2,2] .sq rfl,xk B42 [1,2,2,2] .sq rfl,rg B42 [1,1,2,2,2] 4 false rfl,hr_42_4,xk B42 [2,1,2,2,2] (.bk 0) rfl,xk B42 [2,2,1,2,2,2] .lp rfl,hh_42_5,hc_42_5]
 (try simp only [NM,EE] at hc3)
 rw [hc3 _ (by simp (maxSteps:=999999) (disch:=first|exact D (by decide)|exact K (by kernel_rfl)) only [E,EE,↓reduceIte,simprocAttr,hh_42_5,hc_42_5])]
 clear hc3
 cases o1 with
 | o0 _ _ _ _ _ =>
  (try dsimp only at hF)
  cases hF
 | o1 v4 v5 v6 v7 v8 v9 =>
  (try dsimp only at hF)
  have hJ := f42_oF55p_wbii_j3_ok k v4 v5 v6 v7 v8 v9 _ hF
  simp (maxSteps:=999999) (disch:=first|exact D (by decide)|exact K (by kernel_rfl)) only [E,EE,↓reduceIte,simprocAttr,R42_oF55p_wbii_l2.st]
  try simp only [NM,EE] at hJ
  exact hJ
noncomputable def f42_oF55p_wbii_e (k:Nat) (e0:List T39) (e1 e1_1:Int) : Option R42_oF55p_wbii :=
 Option.bind (f61_oF55p_wbii k e0 e1 e1_1) fun o1 =>
  match o1 with
  | .o0 v4 v5 v6 v7 =>
   cond ((v4 == (-1)))
    (some (R42_oF55p_wbii.o0 v5 v6 v7))
    (f42_oF55p_wbii_j1 k v4 false v5 v6 v7)
theorem f42_oF55p_wbii_e_ok (k:Nat) (e0:List T39) (e1 e1_1:Int) (r:R42_oF55p_wbii) (hF:f42_oF55p_wbii_e k e0 e1 e1_1 = some r) : finK Try.prog Try.f42 2 (EX 42 k (nav B42 []) (⟨42,[(0,.own 1000000),(1,V.fn 55 [.ptr 1000001 0])],[(1000000,.row true 11 39 (rowsOf encT39 e0)),(1000001,.box 79 [.p (.int .i64 e1),.p (.int .u32 e1_1)])]⟩ : St)) = some r.st := by
 unfold f42_oF55p_wbii_e at hF
 obtain ⟨o1,h2,hF⟩ := bs hF
 have hc3 := f61_oF55p_wbii_ok k e0 e1 e1_1 _ h2
 cases o1 with
 | o0 v4 v5 v6 v7 =>
  (try dsimp only at hF)
  (try simp only [NM,EE,R61_oF55p_wbii.st] at hc3)
  simp (maxSteps:=999999) (disch:=first|exact D (by decide)|exact K (by kernel_rfl)) only [E,EE,↓reduceIte,simprocAttr,xk B42 [] .sq rfl,rg B42 [1] 0 false rfl,hr_42_0,xk B42 [2] .sq rfl,rg B42 [1,2] 1 false rfl,hr_42_1,callStep,CL,gv,List.contains,xk B42 [2,2] .sq rfl,xk B42 [1,2,2] .sq rfl,rg B42 [1,1,2,2] 2 false rfl,hr_42_2,xk B42 [2,1,2,2] (.cd 12) rfl,hc3]
  rcases cond_some hF with ⟨h8,hF⟩ | ⟨h8,hF⟩
  ·cases hF
   simp (maxSteps:=999999) (disch:=first|exact D (by decide)|exact K (by kernel_rfl)) only [E,EE,↓reduceIte,simprocAttr,xk B42 [2,2,1,2,2] .sq rfl,rg B42 [1,2,2,1,2,2] 3 false rfl,hr_42_3,xk B42 [2,2,2,1,2,2] .rt rfl,finK_norm,finK_ret,fin42,R42_oF55p_wbii.st,hc3,h8]
  ·have hJ := f42_oF55p_wbii_j1_ok k v4 false v5 v6 v7 _ hF
   simp (maxSteps:=999999) (disch:=first|exact D (by decide)|exact K (by kernel_rfl)) only [E,EE,↓reduceIte,simprocAttr,xk B42 [3,2,1,2,2] .sk rfl,hc3,h8]
   try simp only [NM,EE] at hJ
   exact hJ
noncomputable def f42_oF55p_wbii (k:Nat) (e0:List T39) (e1 e1_1:Int) : Option R42_oF55p_wbii := match k with | 0 => none | k + 1 => f42_oF55p_wbii_e k e0 e1 e1_1
theorem f42_oF55p_wbii_ok (k:Nat) (e0:List T39) (e1 e1_1:Int) (r:R42_oF55p_wbii) (hF:f42_oF55p_wbii k e0 e1 e1_1 = some r) : CV k 42 [.own 1000000,V.fn 55 [.ptr 1000001 0]] [.row true 11 39 (rowsOf encT39 e0),.box 79 [.p (.int .i64 e1),.p (.int .u32 e1_1)]] = some r.st := by
 cases k with
 | zero => cases hF
 | succ k =>
  unfold CV
  rw [ev_call (F := Try.f42) (c := (nav B42 [])) rfl Try.func42 rfl rfl rfl rfl]
  exact f42_oF55p_wbii_e_ok k e0 e1 e1_1 r hF
end Go.Proofs.YticggdfaehneeaaV