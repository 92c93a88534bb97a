/- What the program's functions answer: plain functions,and that the interpreter answers what they do. Written by a program of this session,out of the translation. -/
import Derived.Test.YticggdfaehneeaaVP2
namespace Go.Proofs.YticggdfaehneeaaV
open Go
set_option linter.unusedVariables false
set_option linter.unusedSimpArgs false
set_option maxRecDepth 8000
set_option maxHeartbeats 4000000
-- f65_ai10rzai10rz: f65 heliograph/pieces.Together
inductive R65_ai10rzai10rz where
 | o0 (y:Bool)
noncomputable def R65_ai10rzai10rz.st : R65_ai10rzai10rz → V × List O × List O
 | .o0 y => (.p (.bool y),[],[])
inductive R65_ai10rzai10rz_l2 where
 | o0 (y y_1 y_2 y_3 y_4 y_5 y_6 y_7 y_8 y_9 y_10 y_11:Int) (y_12:List Int) (y_13 y_14 y_15 y_16 y_17 y_18 y_19 y_20 y_21 y_22:Int) (y_23:List Int) (y_24 y_25 y_26 y_27 y_28 y_29 y_30 y_31 y_32 y_33:Int) (y_34:List Int)
 | o1 (y y_1:Int) (y_2:Bool) (y_3 y_4 y_5 y_6 y_7 y_8 y_9 y_10 y_11 y_12:Int) (y_13:List Int) (y_14 y_15 y_16 y_17 y_18 y_19 y_20 y_21 y_22 y_23:Int) (y_24:List Int) (y_25 y_26 y_27 y_28 y_29 y_30 y_31 y_32 y_33 y_34:Int) (y_35:List Int)
noncomputable def R65_ai10rzai10rz_l2.st : R65_ai10rzai10rz_l2 → Out × St
 | .o0 y y_1 y_2 y_3 y_4 y_5 y_6 y_7 y_8 y_9 y_10 y_11 y_12 y_13 y_14 y_15 y_16 y_17 y_18 y_19 y_20 y_21 y_22 y_23 y_24 y_25 y_26 y_27 y_28 y_29 y_30 y_31 y_32 y_33 y_34 => (.norm,(⟨92,[(2,.ptr 30000 0),(3,.ptr 30001 0),(5,.ptr 30002 0),(25,V.bsl 30003 2 2),(26,.p (.int .i64 y)),(27,.p (.int .i64 y_1))],[(30000,.box 39 [.p (.int .i64 y_2),.p (.int .i64 y_3),.p (.int .u32 y_4),.p (.int .i64 y_5),.p (.int .i64 y_6),.p (.int .i64 y_7),.p (.int .i64 y_8),.p (.int .i64 y_9),.p (.int .i64 y_10),.p (.int .i64 y_11),.sl 1 (rowsOf (encI .u8) y_12)]),(30001,.box 39 [.p (.int .i64 y_13),.p (.int .i64 y_14),.p (.int .u32 y_15),.p (.int .i64 y_16),.p (.int .i64 y_17),.p (.int .i64 y_18),.p (.int .i64 y_19),.p (.int .i64 y_20),.p (.int .i64 y_21),.p (.int .i64 y_22),.sl 1 (rowsOf (encI .u8) y_23)]),(30002,.box 39 [.p (.int .i64 y_24),.p (.int .i64 y_25),.p (.int .u32 y_26),.p (.int .i64 y_27),.p (.int .i64 y_28),.p (.int .i64 y_29),.p (.int .i64 y_30),.p (.int .i64 y_31),.p (.int .i64 y_32),.p (.int .i64 y_33),.sl 1 (rowsOf (encI .u8) y_34)]),(30003,.box 109 [.ptr 30002 8,.ptr 30000 8,.ptr 30002 6,.ptr 30000 6])]⟩ : St))
 | .o1 y y_1 y_2 y_3 y_4 y_5 y_6 y_7 y_8 y_9 y_10 y_11 y_12 y_13 y_14 y_15 y_16 y_17 y_18 y_19 y_20 y_21 y_22 y_23 y_24 y_25 y_26 y_27 y_28 y_29 y_30 y_31 y_32 y_33 y_34 y_35 => (.exit 0,(⟨92,[(2,.ptr 30000 0),(3,.ptr 30001 0),(5,.ptr 30002 0),(25,V.bsl 30003 2 2),(26,.p (.int .i64 y)),(27,.p (.int .i64 y_1)),(28,.p (.bool y_2))],[(30000,.box 39 [.p (.int .i64 y_3),.p (.int .i64 y_4),.p (.int .u32 y_5),.p (.int .i64 y_6),.p (.int .i64 y_7),.p (.int .i64 y_8),.p (.int .i64 y_9),.p (.int .i64 y_10),.p (.int .i64 y_11),.p (.int .i64 y_12),.sl 1 (rowsOf (encI .u8) y_13)]),(30001,.box 39 [.p (.int .i64 y_14),.p (.int .i64 y_15),.p (.int .u32 y_16),.p (.int .i64 y_17),.p (.int .i64 y_18),.p (.int .i64 y_19),.p (.int .i64 y_20),.p (.int .i64 y_21),.p (.int .i64 y_22),.p (.int .i64 y_23),.sl 1 (rowsOf (encI .u8) y_24)]),(30002,.box 39 [.p (.int .i64 y_25),.p (.int .i64 y_26),.p (.int .u32 y_27),.p (.int .i64 y_28),.p (.int .i64 y_29),.p (.int .i64 y_30),.p (.int .i64 y_31),.p (.int .i64 y_32),.p (.int .i64 y_33),.p (.int .i64 y_34),.sl 1 (rowsOf (encI .u8) y_35)]),(30003,.box 109 [.ptr 30002 8,.ptr 30000 8,.ptr 30002 6,.ptr 30000 6])]⟩ : St))
noncomputable def f65_ai10rzai10rz_l2_j2 (k:Nat) (x26 x27 h0_ h0__1 h0__2 h0__3 h0__4 h0__5 h0__6 h0__7 h0__8 h0__9:Int) (h0__10:List Int) (h1_ h1__1 h1__2 h1__3 h1__4 h1__5 h1__6 h1__7 h1__8 h1__9:Int) (h1__10:List Int) (h2_ h2__1 h2__2 h2__3 h2__4 h2__5 h2__6 h2__7 h2__8 h2__9:Int) (h2__10:List Int) : Option R65_ai10rzai10rz_l2 :=
 some (R65_ai10rzai10rz_l2.o0 x26 (IntKind.i64.wrap (x27 + (1:Int))) h0_ h0__1 h0__2 h0__3 h0__4 h0__5 h0__6 h0__7 h0__8 h0__9 h0__10 h1_ h1__1 h1__2 h1__3 h1__4 h1__5 h1__6 h1__7 h1__8 h1__9 h1__10 h2_ h2__1 h2__2 h2__3 h2__4 h2__5 h2__6 h2__7 h2__8 h2__9 h2__10)
theorem f65_ai10rzai10rz_l2_j2_ok (k:Nat) (x26 x27 h0_ h0__1 h0__2 h0__3 h0__4 h0__5 h0__6 h0__7 h0__8 h0__9:Int) (h0__10:List Int) (h1_ h1__1 h1__2 h1__3 h1__4 h1__5 h1__6 h1__7 h1__8 h1__9:Int) (h1__10:List Int) (h2_ h2__1 h2__2 h2__3 h2__4 h2__5 h2__6 h2__7 h2__8 h2__9:Int) (h2__10:List Int) (r:R65_ai10rzai10rz_l2) (hF:f65_ai10rzai10rz_l2_j2 k x26 x27 h0_ h0__1 h0__2 h0__3 h0__4 h0__5 h0__6 h0__7 h0__8 h0__9 h0__10 h1_ h1__1 h1__2 h1__3 h1__4 h1__5 h1__6 h1__7 h1__8 h1__9 h1__10 h2_ h2__1 h2__2 h2__3 h2__4 h2__5 h2__6 h2__7 h2__8 h2__9 h2__10 = some r) : EX 65 k (nav B65 [2,2,2,1,2,2,1,2,2,2]) (⟨92,[(2,.ptr 30000 0),(3,.ptr 30001 0),(5,.ptr 30002 0),(25,V.bsl 30003 2 2),(26,.p (.int .i64 x26)),(27,.p (.int .i64 x27))],[(30000,.box 39 [.p (.int .i64 h0_),.p (.int .i64 h0__1),.p (.int .u32 h0__2),.p (.int .i64 h0__3),.p (.int .i64 h0__4),.p (.int .i64 h0__5),.p (.int .i64 h0__6),.p (.int .i64 h0__7),.p (.int .i64 h0__8),.p (.int .i64 h0__9),.sl 1 (rowsOf (encI .u8) h0__10)]),(30001,.box 39 [.p (.int .i64 h1_),.p (.int .i64 h1__1),.p (.int .u32 h1__2),.p (.int .i64 h1__3),.p (.int .i64 h1__4),.p (.int .i64 h1__5),.p (.int .i64 h1__6),.p (.int .i64 h1__7),.p (.int .i64 h1__8),.p (.int .i64 h1__9),.sl 1 (rowsOf (encI .u8) h1__10)]),(30002,.box 39 [.p (.int .i64 h2_),.p (.int .i64 h2__1),.p (.int .u32 h2__2),.p (.int .i64 h2__3),.p (.int .i64 h2__4),.p (.int .i64 h2__5),.p (.int .i64 h2__6),.p (.int .i64 h2__7),.p (.int .i64 h2__8),.p (.int .i64 h2__9),.sl 1 (rowsOf (encI .u8) h2__10)]),(30003,.box 109 [.ptr 30002 8,.ptr 30000 8,.ptr 30002 6,.ptr 30000 6])]⟩ : St) = some r.st := by
 unfold f65_ai10rzai10rz_l2_j2 at hF
 cases hF
 simp (maxSteps:=999999) (disch:=first|exact D (by decide)|exact K (by kernel_rfl)) only [E,EE,↓reduceIte,simprocAttr,rg B65 [2,2,2,1,2,2,1,2,2,2] 8 false rfl,hr_65_8,R65_ai10rzai10rz_l2.st]
noncomputable def f65_ai10rzai10rz_l2_j1 (k:Nat) (x26 x27:Int) (x28:Bool) (h0_ h0__1 h0__2 h0__3 h0__4 h0__5 h0__6 h0__7 h0__8 h0__9:Int) (h0__10:List Int) (h1_ h1__1 h1__2 h1__3 h1__4 h1__5 h1__6 h1__7 h1__8 h1__9:Int) (h1__10:List Int) (h2_ h2__1 h2__2 h2__3 h2__4 h2__5 h2__6 h2__7 h2__8 h2__9:Int) (h2__10:List Int) : Option R65_ai10rzai10rz_l2 :=
 ifE ((0:Int) ≤ x27) (
  cond ((x27 == 0))
   (f65_ai10rzai10rz_l2_j2 k x26 x27 h0_ h0__1 h0__2 h0__3 h0__4 h0__5 h0__6 h0__7 h0__8 h0__9 h0__10 h1_ h1__1 h1__2 h1__3 h1__4 h1__5 h1__6 h1__7 h1__8 h1__9 h1__10 h2_ h2__1 h2__2 h2__3 h2__4 h2__5 h2__6 h2__7 h0__8 h2__9 h2__10)
   (
    cond ((x27 == 1))
     (f65_ai10rzai10rz_l2_j2 k x26 x27 h0_ h0__1 h0__2 h0__3 h0__4 h0__5 h0__6 h0__7 h0__8 h0__9 h0__10 h1_ h1__1 h1__2 h1__3 h1__4 h1__5 h1__6 h1__7 h1__8 h1__9 h1__10 h2_ h2__1 h2__2 h2__3 h2__4 h2__5 h0__6 h2__7 h2__8 h2__9 h2__10)
     (none)))
theorem f65_ai10rzai10rz_l2_j1_ok (k:Nat) (x26 x27:Int) (x28:Bool) (h0_ h0__1 h0__2 h0__3 h0__4 h0__5 h0__6 h0__7 h0__8 h0__9:Int) (h0__10:List Int) (h1_ h1__1 h1__2 h1__3 h1__4 h1__5 h1__6 h1__7 h1__8 h1__9:Int) (h1__10:List Int) (h2_ h2__1 h2__2 h2__3 h2__4 h2__5 h2__6 h2__7 h2__8 h2__9:Int) (h2__10:List Int) (r:R65_ai10rzai10rz_l2) (hF:f65_ai10rzai10rz_l2_j1 k x26 x27 x28 h0_ h0__1 h0__2 h0__3 h0__4 h0__5 h0__6 h0__7 h0__8 h0__9 h0__10 h1_ h1__1 h1__2 h1__3 h1__4 h1__5 h1__6 h1__7 h1__8 h1__9 h1__10 h2_ h2__1 h2__2 h2__3 h2__4 h2__5 h2__6 h2__7 h2__8 h2__9 h2__10 = some r) : EX 65 k (nav B65 [2,2,1,2,2,1,2,2,2]) (⟨92,[(2,.ptr 30000 0),(3,.ptr 30001 0),(5,.ptr 30002 0),(25,V.bsl 30003 2 2),(26,.p (.int .i64 x26)),(27,.p (.int .i64 x27)),(28,.p (.bool x28))],[(30000,.box 39 [.p (.int .i64 h0_),.p (.int .i64 h0__1),.p (.int .u32 h0__2),.p (.int .i64 h0__3),.p (.int .i64 h0__4),.p (.int .i64 h0__5),.p (.int .i64 h0__6),.p (.int .i64 h0__7),.p (.int .i64 h0__8),.p (.int .i64 h0__9),.sl 1 (rowsOf (encI .u8) h0__10)]),(30001,.box 39 [.p (.int .i64 h1_),.p (.int .i64 h1__1),.p (.int .u32 h1__2),.p (.int .i64 h1__3),.p (.int .i64 h1__4),.p (.int .i64 h1__5),.p (.int .i64 h1__6),.p (.int .i64 h1__7),.p (.int .i64 h1__8),.p (.int .i64 h1__9),.sl 1 (rowsOf (encI .u8) h1__10)]),(30002,.box 39 [.p (.int .i64 h2_),.p (.int .i64 h2__1),.p (.int .u32 h2__2),.p (.int .i64 h2__3),.p (.int .i64 h2__4),.p (.int .i64 h2__5),.p (.int .i64 h2__6),.p (.int .i64 h2__7),.p (.int .i64 h2__8),.p (.int .i64 h2__9),.sl 1 (rowsOf (encI .u8) h2__10)]),(30003,.box 109 [.ptr 30002 8,.ptr 30000 8,.ptr 30002 6,.ptr 30000 6])]⟩ : St) = some r.st := by
 unfold f65_ai10rzai10rz_l2_j1 at hF
 obtain ⟨h1,hF⟩ := ifE_some.1 hF
 simp (maxSteps:=999999) (disch:=first|exact D (by decide)|exact K (by kernel_rfl)) only [E,EE,↓reduceIte,simprocAttr,xk B65 [2,2,1,2,2,1,2,2,2] .sq rfl,xk B65 [1,2,2,1,2,2,1,2,2,2] (.bk 1) rfl,xk B65 [2,1,2,2,1,2,2,1,2,2,2] .sq rfl,rg B65 [1,2,1,2,2,1,2,2,1,2,2,2] 6 false rfl,hr_65_6,indexAddrV,t_110,t_109,h1]
 rcases cond_some hF with ⟨h2,hF⟩ | ⟨h2,hF⟩
 ·have q3 : x27 < (2:Int) := by have := eq_of_beq h2; omega
  have q4 : Int.toNat x27 = 0 := by have := eq_of_beq h2; omega
  have hJ := f65_ai10rzai10rz_l2_j2_ok k x26 x27 h0_ h0__1 h0__2 h0__3 h0__4 h0__5 h0__6 h0__7 h0__8 h0__9 h0__10 h1_ h1__1 h1__2 h1__3 h1__4 h1__5 h1__6 h1__7 h1__8 h1__9 h1__10 h2_ h2__1 h2__2 h2__3 h2__4 h2__5 h2__6 h2__7 h0__8 h2__9 h2__10 _ hF
  simp (maxSteps:=999999) (disch:=first|exact D (by decide)|exact K (by kernel_rfl)) only [E,EE,↓reduceIte,simprocAttr,t_109,rg B65 [2,2,1,2,2,1,2,2,1,2,2,2] 7 true rfl,hr_65_7,indexAddrV,t_108,t_3,h1,h2,q3,q4]
  try simp only [NM,EE] at hJ
  exact hJ
 ·rcases cond_some hF with ⟨h5,hF⟩ | ⟨h5,hF⟩
  ·have q6 : x27 < (2:Int) := by have := eq_of_beq h5; omega
   have q7 : Int.toNat x27 = 1 := by have := eq_of_beq h5; omega
   have hJ := f65_ai10rzai10rz_l2_j2_ok k x26 x27 h0_ h0__1 h0__2 h0__3 h0__4 h0__5 h0__6 h0__7 h0__8 h0__9 h0__10 h1_ h1__1 h1__2 h1__3 h1__4 h1__5 h1__6 h1__7 h1__8 h1__9 h1__10 h2_ h2__1 h2__2 h2__3 h2__4 h2__5 h0__6 h2__7 h2__8 h2__9 h2__10 _ hF
   simp (maxSteps:=999999) (disch:=first|exact D (by decide)|exact K (by kernel_rfl)) only [E,EE,↓reduceIte,simprocAttr,t_109,rg B65 [2,2,1,2,2,1,2,2,1,2,2,2] 7 true rfl,hr_65_7,indexAddrV,t_108,t_3,h1,h2,h5,q6,q7]
   try simp only [NM,EE] at hJ
   exact hJ
  ·cases hF
noncomputable def f65_ai10rzai10rz_l2_b (k:Nat) (x26 x27 h0_ h0__1 h0__2 h0__3 h0__4 h0__5 h0__6 h0__7 h0__8 h0__9:Int) (h0__10:List Int) (h1_ h1__1 h1__2 h1__3 h1__4 h1__5 h1__6 h1__7 h1__8 h1__9:Int) (h1__10:List Int) (h2_ h2__1 h2__2 h2__3 h2__4 h2__5 h2__6 h2__7 h2__8 h2__9:Int) (h2__10:List Int) : Option R65_ai10rzai10rz_l2 :=
 cond ((decide (x27 < x26)))
  (f65_ai10rzai10rz_l2_j1 k x26 x27 true h0_ h0__1 h0__2 h0__3 h0__4 h0__5 h0__6 h0__7 h0__8 h0__9 h0__10 h1_ h1__1 h1__2 h1__3 h1__4 h1__5 h1__6 h1__7 h1__8 h1__9 h1__10 h2_ h2__1 h2__2 h2__3 h2__4 h2__5 h2__6 h2__7 h2__8 h2__9 h2__10)
  (some (R65_ai10rzai10rz_l2.o1 x26 x27 false h0_ h0__1 h0__2 h0__3 h0__4 h0__5 h0__6 h0__7 h0__8 h0__9 h0__10 h1_ h1__1 h1__2 h1__3 h1__4 h1__5 h1__6 h1__7 h1__8 h1__9 h1__10 h2_ h2__1 h2__2 h2__3 h2__4 h2__5 h2__6 h2__7 h2__8 h2__9 h2__10))
theorem f65_ai10rzai10rz_l2_b_ok (k:Nat) (x26 x27 h0_ h0__1 h0__2 h0__3 h0__4 h0__5 h0__6 h0__7 h0__8 h0__9:Int) (h0__10:List Int) (h1_ h1__1 h1__2 h1__3 h1__4 h1__5 h1__6 h1__7 h1__8 h1__9:Int) (h1__10:List Int) (h2_ h2__1 h2__2 h2__3 h2__4 h2__5 h2__6 h2__7 h2__8 h2__9:Int) (h2__10:List Int) (r:R65_ai10rzai10rz_l2) (hF:f65_ai10rzai10rz_l2_b k x26 x27 h0_ h0__1 h0__2 h0__3 h0__4 h0__5 h0__6 h0__7 h0__8 h0__9 h0__10 h1_ h1__1 h1__2 h1__3 h1__4 h1__5 h1__6 h1__7 h1__8 h1__9 h1__10 h2_ h2__1 h2__2 h2__3 h2__4 h2__5 h2__6 h2__7 h2__8 h2__9 h2__10 = some r) : EX 65 k (nav B65 [1,2,2,1,2,2,2]) (⟨92,[(2,.ptr 30000 0),(3,.ptr 30001 0),(5,.ptr 30002 0),(25,V.bsl 30003 2 2),(26,.p (.int .i64 x26)),(27,.p (.int .i64 x27))],[(30000,.box 39 [.p (.int .i64 h0_),.p (.int .i64 h0__1),.p (.int .u32 h0__2),.p (.int .i64 h0__3),.p (.int .i64 h0__4),.p (.int .i64 h0__5),.p (.int .i64 h0__6),.p (.int .i64 h0__7),.p (.int .i64 h0__8),.p (.int .i64 h0__9),.sl 1 (rowsOf (encI .u8) h0__10)]),(30001,.box 39 [.p (.int .i64 h1_),.p (.int .i64 h1__1),.p (.int .u32 h1__2),.p (.int .i64 h1__3),.p (.int .i64 h1__4),.p (.int .i64 h1__5),.p (.int .i64 h1__6),.p (.int .i64 h1__7),.p (.int .i64 h1__8),.p (.int .i64 h1__9),.sl 1 (rowsOf (encI .u8) h1__10)]),(30002,.box 39 [.p (.int .i64 h2_),.p (.int .i64 h2__1),.p (.int .u32 h2__2),.p (.int .i64 h2__3),.p (.int .i64 h2__4),.p (.int .i64 h2__5),.p (.int .i64 h2__6),.p (.int .i64 h2__7),.p (.int .i64 h2__8),.p (.int .i64 h2__9),.sl 1 (rowsOf (encI .u8) h2__10)]),(30003,.box 109 [.ptr 30002 8,.ptr 30000 8,.ptr 30002 6,.ptr 30000 6])]⟩ : St) = some r.st := by
 unfold f65_ai10rzai10rz_l2_b at hF
 simp (maxSteps:=999999) (disch:=first|exact D (by decide)|exact K (by kernel_rfl)) only [E,EE,↓reduceIte,simprocAttr,xk B65 [1,2,2,1,2,2,2] .sq rfl,rg B65 [1,1,2,2,1,2,2,2] 5 false rfl,hr_65_5,xk B65 [2,1,2,2,1,2,2,2] .sq rfl,xk B65 [1,2,1,2,2,1,2,2,2] (.cd 28) rfl]
 rcases cond_some hF with ⟨h1,hF⟩ | ⟨h1,hF⟩
 ·have hJ := f65_ai10rzai10rz_l2_j1_ok k x26 x27 true h0_ h0__1 h0__2 h0__3 h0__4 h0__5 h0__6 h0__7 h0__8 h0__9 h0__10 h1_ h1__1 h1__2 h1__3 h1__4 h1__5 h1__6 h1__7 h1__8 h1__9 h1__10 h2_ h2__1 h2__2 h2__3 h2__4 h2__5 h2__6 h2__7 h2__8 h2__9 h2__10 _ hF
  simp (maxSteps:=999999) (disch:=first|exact D (by decide)|exact K (by kernel_rfl)) only [E,EE,↓reduceIte,simprocAttr,xk B65 [2,1,2,1,2,2,1,2,2,2] .sk rfl,h1]
  try simp only [NM,EE] at hJ
  exact hJ
 ·cases hF
  simp (maxSteps:=999999) (disch:=first|exact D (by decide)|exact K (by kernel_rfl)) only [E,EE,↓reduceIte,simprocAttr,xk B65 [3,1,2,1,2,2,1,2,2,2] (.ex 0) rfl,R65_ai10rzai10rz_l2.st,h1]
noncomputable def f65_ai10rzai10rz_l2 (k:Nat) : Nat → Int → Int → Int → Int → Int → Int → Int → Int → Int → Int → Int → Int → (List Int) → Int → Int → Int → Int → Int → Int → Int → Int → Int → Int → (List Int) → Int → Int → Int → Int → Int → Int → Int → Int → Int → Int → (List Int) → Option R65_ai10rzai10rz_l2
 | 0,_,_,_,_,_,_,_,_,_,_,_,_,_,_,_,_,_,_,_,_,_,_,_,_,_,_,_,_,_,_,_,_,_,_,_ => none
 | n + 1,x26,x27,h0_,h0__1,h0__2,h0__3,h0__4,h0__5,h0__6,h0__7,h0__8,h0__9,h0__10,h1_,h1__1,h1__2,h1__3,h1__4,h1__5,h1__6,h1__7,h1__8,h1__9,h1__10,h2_,h2__1,h2__2,h2__3,h2__4,h2__5,h2__6,h2__7,h2__8,h2__9,h2__10 => Option.bind (f65_ai10rzai10rz_l2_b k x26 x27 h0_ h0__1 h0__2 h0__3 h0__4 h0__5 h0__6 h0__7 h0__8 h0__9 h0__10 h1_ h1__1 h1__2 h1__3 h1__4 h1__5 h1__6 h1__7 h1__8 h1__9 h1__10 h2_ h2__1 h2__2 h2__3 h2__4 h2__5 h2__6 h2__7 h2__8 h2__9 h2__10) fun o =>
  match o with
  | .o0 y y_1 y_2 y_3 y_4 y_5 y_6 y_7 y_8 y_9 y_10 y_11 y_12 y_13 y_14 y_15 y_16 y_17 y_18 y_19 y_20 y_21 y_22 y_23 y_24 y_25 y_26 y_27 y_28 y_29 y_30 y_31 y_32 y_33 y_34 => f65_ai10rzai10rz_l2 k n y y_1 y_2 y_3 y_4 y_5 y_6 y_7 y_8 y_9 y_10 y_11 y_12 y_13 y_14 y_15 y_16 y_17 y_18 y_19 y_20 y_21 y_22 y_23 y_24 y_25 y_26 y_27 y_28 y_29 y_30 y_31 y_32 y_33 y_34
  | .o1 y y_1 y_2 y_3 y_4 y_5 y_6 y_7 y_8 y_9 y_10 y_11 y_12 y_13 y_14 y_15 y_16 y_17 y_18 y_19 y_20 y_21 y_22 y_23 y_24 y_25 y_26 y_27 y_28 y_29 y_30 y_31 y_32 y_33 y_34 y_35 => some (.o1 y y_1 y_2 y_3 y_4 y_5 y_6 y_7 y_8 y_9 y_10 y_11 y_12 y_13 y_14 y_15 y_16 y_17 y_18 y_19 y_20 y_21 y_22 y_23 y_24 y_25 y_26 y_27 y_28 y_29 y_30 y_31 y_32 y_33 y_34 y_35)
theorem f65_ai10rzai10rz_l2_ok (k n:Nat) : ∀ (x26 x27 h0_ h0__1 h0__2 h0__3 h0__4 h0__5 h0__6 h0__7 h0__8 h0__9:Int) (h0__10:List Int) (h1_ h1__1 h1__2 h1__3 h1__4 h1__5 h1__6 h1__7 h1__8 h1__9:Int) (h1__10:List Int) (h2_ h2__1 h2__2 h2__3 h2__4 h2__5 h2__6 h2__7 h2__8 h2__9:Int) (h2__10:List Int) (r:R65_ai10rzai10rz_l2) (hF:f65_ai10rzai10rz_l2 k n x26 x27 h0_ h0__1 h0__2 h0__3 h0__4 h0__5 h0__6 h0__7 h0__8 h0__9 h0__10 h1_ h1__1 h1__2 h1__3 h1__4 h1__5 h1__6 h1__7 h1__8 h1__9 h1__10 h2_ h2__1 h2__2 h2__3 h2__4 h2__5 h2__6 h2__7 h2__8 h2__9 h2__10 = some r) (σ:St) (hσ:headR (hints.head 65 5) (hints.canon 65 5) σ = some (⟨92,[(2,.ptr 30000 0),(3,.ptr 30001 0),(5,.ptr 30002 0),(25,V.bsl 30003 2 2),(26,.p (.int .i64 x26)),(27,.p (.int .i64 x27))],[(30000,.box 39 [.p (.int .i64 h0_),.p (.int .i64 h0__1),.p (.int .u32 h0__2),.p (.int .i64 h0__3),.p (.int .i64 h0__4),.p (.int .i64 h0__5),.p (.int .i64 h0__6),.p (.int .i64 h0__7),.p (.int .i64 h0__8),.p (.int .i64 h0__9),.sl 1 (rowsOf (encI .u8) h0__10)]),(30001,.box 39 [.p (.int .i64 h1_),.p (.int .i64 h1__1),.p (.int .u32 h1__2),.p (.int .i64 h1__3),.p (.int .i64 h1__4),.p (.int .i64 h1__5),.p (.int .i64 h1__6),.p (.int .i64 h1__7),.p (.int .i64 h1__8),.p (.int .i64 h1__9),.sl 1 (rowsOf (encI .u8) h1__10)]),(30002,.box 39 [.p (.int .i64 h2_),.p (.int .i64 h2__1),.p (.int .u32 h2__2),.p (.int .i64 h2__3),.p (.int .i64 h2__4),.p (.int .i64 h2__5),.p (.int .i64 h2__6),.p (.int .i64 h2__7),.p (.int .i64 h2__8),.p (.int .i64 h2__9),.sl 1 (rowsOf (encI .u8) h2__10)]),(30003,.box 109 [.ptr 30002 8,.ptr 30000 8,.ptr 30002 6,.ptr 30000 6])]⟩ : St)),LP 65 k (nav B65 [1,2,2,1,2,2,2]) n σ = some r.st := by
 induction n with
 | zero => intro x26 x27 h0_ h0__1 h0__2 h0__3 h0__4 h0__5 h0__6 h0__7 h0__8 h0__9 h0__10 h1_ h1__1 h1__2 h1__3 h1__4 h1__5 h1__6 h1__7 h1__8 h1__9 h1__10 h2_ h2__1 h2__2 h2__3 h2__4 h2__5 h2__6 h2__7 h2__8 h2__9 h2__10 r hF; cases hF
 | succ n ih =>
  intro x26 x27 h0_ h0__1 h0__2 h0__3 h0__4 h0__5 h0__6 h0__7 h0__8 h0__9 h0__10 h1_ h1__1 h1__2 h1__3 h1__4 h1__5 h1__6 h1__7 h1__8 h1__9 h1__10 h2_ h2__1 h2__2 h2__3 h2__4 h2__5 h2__6 h2__7 h2__8 h2__9 h2__10 r hF σ hσ
  rw [f65_ai10rzai10rz_l2] at hF
  obtain ⟨o,h,hF⟩ := Option.bind_eq_some_iff.1 hF
  have hB := f65_ai10rzai10rz_l2_b_ok k x26 x27 h0_ h0__1 h0__2 h0__3 h0__4 h0__5 h0__6 h0__7 h0__8 h0__9 h0__10 h1_ h1__1 h1__2 h1__3 h1__4 h1__5 h1__6 h1__7 h1__8 h1__9 h1__10 h2_ h2__1 h2__2 h2__3 h2__4 h2__5 h2__6 h2__7 h2__8 h2__9 h2__10 o h
  unfold LP at ih ⊢
  unfold EX at hB
  rw [loopK_succ,show firstReg (nav B65 [1,2,2,1,2,2,2]) = 5 from rfl,hσ,headK_some,hB]
  cases o with
  | o0 y y_1 y_2 y_3 y_4 y_5 y_6 y_7 y_8 y_9 y_10 y_11 y_12 y_13 y_14 y_15 y_16 y_17 y_18 y_19 y_20 y_21 y_22 y_23 y_24 y_25 y_26 y_27 y_28 y_29 y_30 y_31 y_32 y_33 y_34 =>
   refine ih y y_1 y_2 y_3 y_4 y_5 y_6 y_7 y_8 y_9 y_10 y_11 y_12 y_13 y_14 y_15 y_16 y_17 y_18 y_19 y_20 y_21 y_22 y_23 y_24 y_25 y_26 y_27 y_28 y_29 y_30 y_31 y_32 y_33 y_34 r hF _ ?_
   simp (maxSteps:=999999) (disch:=first|exact D (by decide)|exact K (by kernel_rfl)) only [E,EE,↓reduceIte,simprocAttr,hh_65_5,hc_65_5]
  | o1 y y_1 y_2 y_3 y_4 y_5 y_6 y_7 y_8 y_9 y_10 y_11 y_12 y_13 y_14 y_15 y_16 y_17 y_18 y_19 y_20 y_21 y_22 y_23 y_24 y_25 y_26 y_27 y_28 y_29 y_30 y_31 y_32 y_33 y_34 y_35 => cases hF; rfl
noncomputable def f65_ai10rzai10rz_j4 (k:Nat) (x45:Bool) (h0_ h0__1 h0__2 h0__3 h0__4 h0__5 h0__6 h0__7 h0__8 h0__9:Int) (h0__10:List Int) (h1_ h1__1 h1__2 h1__3 h1__4 h1__5 h1__6 h1__7 h1__8 h1__9:Int) (h1__10:List Int) : Option R65_ai10rzai10rz :=
 cond ((decide ((if h1__8 > h0__8 then h1__8 else h0__8) ≥ (if (IntKind.i64.wrap (h1__8 + ((List.length h1__10) : Int))) < (IntKind.i64.wrap (h0__8 + ((List.length h0__10) : Int))) then (IntKind.i64.wrap (h1__8 + ((List.length h1__10) : Int))) else (IntKind.i64.wrap (h0__8 + ((List.length h0__10) : Int)))))))
  (some (R65_ai10rzai10rz.o0 true))
  (
   ifE ((0:Int) ≤ (IntKind.i64.wrap ((if h1__8 > h0__8 then h1__8 else h0__8) - h0__8))) (
    ifE ((0:Int) ≤ (IntKind.i64.wrap ((if (IntKind.i64.wrap (h1__8 + ((List.length h1__10) : Int))) < (IntKind.i64.wrap (h0__8 + ((List.length h0__10) : Int))) then (IntKind.i64.wrap (h1__8 + ((List.length h1__10) : Int))) else (IntKind.i64.wrap (h0__8 + ((List.length h0__10) : Int)))) - h0__8))) (
     ifE ((Int.toNat (IntKind.i64.wrap ((if h1__8 > h0__8 then h1__8 else h0__8) - h0__8))) ≤ (Int.toNat ((IntKind.i64.wrap ((if (IntKind.i64.wrap (h1__8 + ((List.length h1__10) : Int))) < (IntKind.i64.wrap (h0__8 + ((List.length h0__10) : Int))) then (IntKind.i64.wrap (h1__8 + ((List.length h1__10) : Int))) else (IntKind.i64.wrap (h0__8 + ((List.length h0__10) : Int)))) - h0__8))))) (
      ifE ((Int.toNat ((IntKind.i64.wrap ((if (IntKind.i64.wrap (h1__8 + ((List.length h1__10) : Int))) < (IntKind.i64.wrap (h0__8 + ((List.length h0__10) : Int))) then (IntKind.i64.wrap (h1__8 + ((List.length h1__10) : Int))) else (IntKind.i64.wrap (h0__8 + ((List.length h0__10) : Int)))) - h0__8)))) ≤ (List.length h0__10)) (
       ifE ((0:Int) ≤ (IntKind.i64.wrap ((if h1__8 > h0__8 then h1__8 else h0__8) - h1__8))) (
        ifE ((0:Int) ≤ (IntKind.i64.wrap ((if (IntKind.i64.wrap (h1__8 + ((List.length h1__10) : Int))) < (IntKind.i64.wrap (h0__8 + ((List.length h0__10) : Int))) then (IntKind.i64.wrap (h1__8 + ((List.length h1__10) : Int))) else (IntKind.i64.wrap (h0__8 + ((List.length h0__10) : Int)))) - h1__8))) (
         ifE ((Int.toNat (IntKind.i64.wrap ((if h1__8 > h0__8 then h1__8 else h0__8) - h1__8))) ≤ (Int.toNat ((IntKind.i64.wrap ((if (IntKind.i64.wrap (h1__8 + ((List.length h1__10) : Int))) < (IntKind.i64.wrap (h0__8 + ((List.length h0__10) : Int))) then (IntKind.i64.wrap (h1__8 + ((List.length h1__10) : Int))) else (IntKind.i64.wrap (h0__8 + ((List.length h0__10) : Int)))) - h1__8))))) (
          ifE ((Int.toNat ((IntKind.i64.wrap ((if (IntKind.i64.wrap (h1__8 + ((List.length h1__10) : Int))) < (IntKind.i64.wrap (h0__8 + ((List.length h0__10) : Int))) then (IntKind.i64.wrap (h1__8 + ((List.length h1__10) : Int))) else (IntKind.i64.wrap (h0__8 + ((List.length h0__10) : Int)))) - h1__8)))) ≤ (List.length h1__10)) (
           Option.bind (f67_rr k ((List.drop (Int.toNat (IntKind.i64.wrap ((if h1__8 > h0__8 then h1__8 else h0__8) - h0__8))) ((List.take ((Int.toNat ((IntKind.i64.wrap ((if (IntKind.i64.wrap (h1__8 + ((List.length h1__10) : Int))) < (IntKind.i64.wrap (h0__8 + ((List.length h0__10) : Int))) then (IntKind.i64.wrap (h1__8 + ((List.length h1__10) : Int))) else (IntKind.i64.wrap (h0__8 + ((List.length h0__10) : Int)))) - h0__8))))) h0__10)))) ((List.drop (Int.toNat (IntKind.i64.wrap ((if h1__8 > h0__8 then h1__8 else h0__8) - h1__8))) ((List.take ((Int.toNat ((IntKind.i64.wrap ((if (IntKind.i64.wrap (h1__8 + ((List.length h1__10) : Int))) < (IntKind.i64.wrap (h0__8 + ((List.length h0__10) : Int))) then (IntKind.i64.wrap (h1__8 + ((List.length h1__10) : Int))) else (IntKind.i64.wrap (h0__8 + ((List.length h0__10) : Int)))) - h1__8))))) h1__10))))) fun o10 =>
            match o10 with
            | .o0 v13 =>
             some (R65_ai10rzai10rz.o0 v13))))))))))
theorem f65_ai10rzai10rz_j4_ok (k:Nat) (x45:Bool) (h0_ h0__1 h0__2 h0__3 h0__4 h0__5 h0__6 h0__7 h0__8 h0__9:Int) (h0__10:List Int) (h1_ h1__1 h1__2 h1__3 h1__4 h1__5 h1__6 h1__7 h1__8 h1__9:Int) (h1__10:List Int) (r:R65_ai10rzai10rz) (hF:f65_ai10rzai10rz_j4 k x45 h0_ h0__1 h0__2 h0__3 h0__4 h0__5 h0__6 h0__7 h0__8 h0__9 h0__10 h1_ h1__1 h1__2 h1__3 h1__4 h1__5 h1__6 h1__7 h1__8 h1__9 h1__10 = some r) : finK Try.prog Try.f65 0 (EX 65 k (nav B65 [2,2,2,2,2,2]) (⟨92,[(2,.ptr 30000 0),(3,.ptr 30001 0),(45,.p (.bool x45))],[(30000,.box 39 [.p (.int .i64 h0_),.p (.int .i64 h0__1),.p (.int .u32 h0__2),.p (.int .i64 h0__3),.p (.int .i64 h0__4),.p (.int .i64 h0__5),.p (.int .i64 h0__6),.p (.int .i64 h0__7),.p (.int .i64 h0__8),.p (.int .i64 h0__9),.sl 1 (rowsOf (encI .u8) h0__10)]),(30001,.box 39 [.p (.int .i64 h1_),.p (.int .i64 h1__1),.p (.int .u32 h1__2),.p (.int .i64 h1__3),.p (.int .i64 h1__4),.p (.int .i64 h1__5),.p (.int .i64 h1__6),.p (.int .i64 h1__7),.p (.int .i64 h1__8),.p (.int .i64 h1__9),.sl 1 (rowsOf (encI .u8) h1__10)])]⟩ : St)) = some r.st := by
 unfold f65_ai10rzai10rz_j4 at hF
 simp (maxSteps:=999999) (disch:=first|exact D (by decide)|exact K (by kernel_rfl)) only [E,EE,↓reduceIte,simprocAttr,xk B65 [2,2,2,2,2,2] .sq rfl,rg B65 [1,2,2,2,2,2,2] 12 true rfl,hr_65_12,fieldAddrV,t_39,t_3,minmaxV,minmaxGo,t_29,xk B65 [2,2,2,2,2,2,2] .sq rfl,rg B65 [1,2,2,2,2,2,2,2] 13 true rfl,hr_65_13]
 rcases cond_some hF with ⟨h1,hF⟩ | ⟨h1,hF⟩
 ·cases hF
  simp (maxSteps:=999999) (disch:=first|exact D (by decide)|exact K (by kernel_rfl)) only [E,EE,↓reduceIte,simprocAttr,xk B65 [2,2,2,2,2,2,2,2] .rt rfl,finK_norm,finK_ret,fin65,R65_ai10rzai10rz.st,h1]
 ·obtain ⟨h2,hF⟩ := ifE_some.1 hF
  obtain ⟨h3,hF⟩ := ifE_some.1 hF
  obtain ⟨h4,hF⟩ := ifE_some.1 hF
  obtain ⟨h5,hF⟩ := ifE_some.1 hF
  obtain ⟨h6,hF⟩ := ifE_some.1 hF
  obtain ⟨h7,hF⟩ := ifE_some.1 hF
  obtain ⟨h8,hF⟩ := ifE_some.1 hF
  obtain ⟨h9,hF⟩ := ifE_some.1 hF
  obtain ⟨o10,h11,hF⟩ := bs hF
  have hc12 := f67_rr_ok k ((List.drop (Int.toNat (IntKind.i64.wrap ((if h1__8 > h0__8 then h1__8 else h0__8) - h0__8))) ((List.take ((Int.toNat ((IntKind.i64.wrap ((if (IntKind.i64.wrap (h1__8 + ((List.length h1__10) : Int))) < (IntKind.i64.wrap (h0__8 + ((List.length h0__10) : Int))) then (IntKind.i64.wrap (h1__8 + ((List.length h1__10) : Int))) else (IntKind.i64.wrap (h0__8 + ((List.length h0__10) : Int)))) - h0__8))))) h0__10)))) ((List.drop (Int.toNat (IntKind.i64.wrap ((if h1__8 > h0__8 then h1__8 else h0__8) - h1__8))) ((List.take ((Int.toNat ((IntKind.i64.wrap ((if (IntKind.i64.wrap (h1__8 + ((List.length h1__10) : Int))) < (IntKind.i64.wrap (h0__8 + ((List.length h0__10) : Int))) then (IntKind.i64.wrap (h1__8 + ((List.length h1__10) : Int))) else (IntKind.i64.wrap (h0__8 + ((List.length h0__10) : Int)))) - h1__8))))) h1__10)))) _ h11
  cases o10 with
  | o0 v13 =>
   (try dsimp only at hF)
   (try simp only [NM,EE,R67_rr.st] at hc12)
   cases hF
   simp (maxSteps:=999999) (disch:=first|exact D (by decide)|exact K (by kernel_rfl)) only [E,EE,↓reduceIte,simprocAttr,fieldAddrV,t_39,t_29,t_3,sliceV,bound,t_5,callStep,CL,gv,List.contains,xk B65 [2,2,2,2,2,2,2,2] .rt rfl,finK_norm,finK_ret,fin65,R65_ai10rzai10rz.st,h1,h2,h3,h4,h5,h6,h7,h8,h9,hc12]
noncomputable def f65_ai10rzai10rz_j3 (k:Nat) (x26 x27:Int) (x28:Bool) (h0_ h0__1 h0__2 h0__3 h0__4 h0__5 h0__6 h0__7 h0__8 h0__9:Int) (h0__10:List Int) (h1_ h1__1 h1__2 h1__3 h1__4 h1__5 h1__6 h1__7 h1__8 h1__9:Int) (h1__10:List Int) (h2_ h2__1 h2__2 h2__3 h2__4 h2__5 h2__6 h2__7 h2__8 h2__9:Int) (h2__10:List Int) : Option R65_ai10rzai10rz :=
 Option.bind (f41_ai10rzai10rz k h0_ h0__1 h0__2 h0__3 h0__4 h0__5 h0__6 h0__7 h0__8 h0__9 h0__10 h2_ h2__1 h2__2 h2__3 h2__4 h2__5 h2__6 h2__7 h2__8 h2__9 h0__10) fun o1 =>
  match o1 with
  | .o0 v4 =>
   cond ((!v4))
    (some (R65_ai10rzai10rz.o0 false))
    (f65_ai10rzai10rz_j4 k false h0_ h0__1 h0__2 h0__3 h0__4 h0__5 h0__6 h0__7 h0__8 h0__9 h0__10 h1_ h1__1 h1__2 h1__3 h1__4 h1__5 h1__6 h1__7 h1__8 h1__9 h1__10)
theorem f65_ai10rzai10rz_j3_ok (k:Nat) (x26 x27:Int) (x28:Bool) (h0_ h0__1 h0__2 h0__3 h0__4 h0__5 h0__6 h0__7 h0__8 h0__9:Int) (h0__10:List Int) (h1_ h1__1 h1__2 h1__3 h1__4 h1__5 h1__6 h1__7 h1__8 h1__9:Int) (h1__10:List Int) (h2_ h2__1 h2__2 h2__3 h2__4 h2__5 h2__6 h2__7 h2__8 h2__9:Int) (h2__10:List Int) (r:R65_ai10rzai10rz) (hF:f65_ai10rzai10rz_j3 k x26 x27 x28 h0_ h0__1 h0__2 h0__3 h0__4 h0__5 h0__6 h0__7 h0__8 h0__9 h0__10 h1_ h1__1 h1__2 h1__3 h1__4 h1__5 h1__6 h1__7 h1__8 h1__9 h1__10 h2_ h2__1 h2__2 h2__3 h2__4 h2__5 h2__6 h2__7 h2__8 h2__9 h2__10 = some r) : finK Try.prog Try.f65 0 (EX 65 k (nav B65 [2,2,2,2]) (⟨92,[(2,.ptr 30000 0),(3,.ptr 30001 0),(5,.ptr 30002 0),(25,V.bsl 30003 2 2),(26,.p (.int .i64 x26)),(27,.p (.int .i64 x27)),(28,.p (.bool x28))],[(30000,.box 39 [.p (.int .i64 h0_),.p (.int .i64 h0__1),.p (.int .u32 h0__2),.p (.int .i64 h0__3),.p (.int .i64 h0__4),.p (.int .i64 h0__5),.p (.int .i64 h0__6),.p (.int .i64 h0__7),.p (.int .i64 h0__8),.p (.int .i64 h0__9),.sl 1 (rowsOf (encI .u8) h0__10)]),(30001,.box 39 [.p (.int .i64 h1_),.p (.int .i64 h1__1),.p (.int .u32 h1__2),.p (.int .i64 h1__3),.p (.int .i64 h1__4),.p (.int .i64 h1__5),.p (.int .i64 h1__6),.p (.int .i64 h1__7),.p (.int .i64 h1__8),.p (.int .i64 h1__9),.sl 1 (rowsOf (encI .u8) h1__10)]),(30002,.box 39 [.p (.int .i64 h2_),.p (.int .i64 h2__1),.p (.int .u32 h2__2),.p (.int .i64 h2__3),.p (.int .i64 h2__4),.p (.int .i64 h2__5),.p (.int .i64 h2__6),.p (.int .i64 h2__7),.p (.int .i64 h2__8),.p (.int .i64 h2__9),.sl 1 (rowsOf (encI .u8) h2__10)]),(30003,.box 109 [.ptr 30002 8,.ptr 30000 8,.ptr 30002 6,.ptr 30000 6])]⟩ : St)) = some r.st := by
 unfold f65_ai10rzai10rz_j3 at hF
 obtain ⟨o1,h2,hF⟩ := bs hF
 have hc3 := f41_ai10rzai10rz_ok k h0_ h0__1 h0__2 h0__3 h0__4 h0__5 h0__6 h0__7 h0__8 h0__9 h0__10 h2_ h2__1 h2__2 h2__3 h2__4 h2__5 h2__6 h2__7 h2__8 h2__9 h0__10 _ h2
 cases o1 with
 | o0 v4 =>
  (try dsimp only at hF)
  (try simp only [NM,EE,R41_ai10rzai10rz.st] at hc3)
  simp (maxSteps:=999999) (disch:=first|exact D (by decide)|exact K (by kernel_rfl)) only [E,EE,↓reduceIte,simprocAttr,xk B65 [2,2,2,2] .sq rfl,rg B65 [1,2,2,2,2] 9 false rfl,hr_65_9,fieldAddrV,t_39,t_29,xk B65 [2,2,2,2,2] .sq rfl,xk B65 [1,2,2,2,2,2] .sq rfl,rg B65 [1,1,2,2,2,2,2] 10 false rfl,hr_65_10,callStep,CL,gv,List.contains,xk B65 [2,1,2,2,2,2,2] (.cd 45) rfl,hc3]
  rcases cond_some hF with ⟨h5,hF⟩ | ⟨h5,hF⟩
  ·cases hF
   simp (maxSteps:=999999) (disch:=first|exact D (by decide)|exact K (by kernel_rfl)) only [E,EE,↓reduceIte,simprocAttr,xk B65 [2,2,1,2,2,2,2,2] .sq rfl,rg B65 [1,2,2,1,2,2,2,2,2] 11 false rfl,hr_65_11,xk B65 [2,2,2,1,2,2,2,2,2] .rt rfl,finK_norm,finK_ret,fin65,R65_ai10rzai10rz.st,hc3,h5]
  ·have hJ := f65_ai10rzai10rz_j4_ok k false h0_ h0__1 h0__2 h0__3 h0__4 h0__5 h0__6 h0__7 h0__8 h0__9 h0__10 h1_ h1__1 h1__2 h1__3 h1__4 h1__5 h1__6 h1__7 h1__8 h1__9 h1__10 _ hF
   simp (maxSteps:=999999) (disch:=first|exact D (by decide)|exact K (by kernel_rfl)) only [E,EE,↓reduceIte,simprocAttr,xk B65 [3,2,1,2,2,2,2,2] .sk rfl,hc3,h5]
   try simp only [NM,EE] at hJ
   exact hJ
noncomputable def f65_ai10rzai10rz_j1 (k:Nat) (x17:Bool) (m2 m2_1 m2_2 m2_3 m2_4 m2_5 m2_6 m2_7 m2_8 m2_9:Int) (m2_10:List Int) (m3 m3_1 m3_2 m3_3 m3_4 m3_5 m3_6 m3_7 m3_8 m3_9:Int) (m3_10:List Int) : Option R65_ai10rzai10rz :=
 Option.bind (f65_ai10rzai10rz_l2 k k 2 0 m2 m2_1 m2_2 m2_3 m2_4 m2_5 m2_6 m2_7 m2_8 m2_9 m2_10 m3 m3_1 m3_2 m3_3 m3_4 m3_5 m3_6 m3_7 m3_8 m3_9 m3_10 m3 m3_1 m3_2 m3_3 m3_4 m3_5 m3_6 m3_7 m3_8 m3_9 m3_10) fun o1 =>
  match o1 with
  | .o0 _ _ _ _ _ _ _ _ _ _ _ _ _ _ _ _ _ _ _ _ _ _ _ _ _ _ _ _ _ _ _ _ _ _ _ =>
   none
  | .o1 v4 v5 v6 v7 v8 v9 v10 v11 v12 v13 v14 v15 v16 v17 v18 v19 v20 v21 v22 v23 v24 v25 v26 v27 v28 v29 v30 v31 v32 v33 v34 v35 v36 v37 v38 v39 =>
   f65_ai10rzai10rz_j3 k v4 v5 v6 v7 v8 v9 v10 v11 v12 v13 v14 v15 v16 v17 v18 v19 v20 v21 v22 v23 v24 v25 v26 v27 v28 v29 v30 v31 v32 v33 v34 v35 v36 v37 v38 v39
theorem f65_ai10rzai10rz_j1_ok (k:Nat) (x17:Bool) (m2 m2_1 m2_2 m2_3 m2_4 m2_5 m2_6 m2_7 m2_8 m2_9:Int) (m2_10:List Int) (m3 m3_1 m3_2 m3_3 m3_4 m3_5 m3_6 m3_7 m3_8 m3_9:Int) (m3_10:List Int) (r:R65_ai10rzai10rz) (hF:f65_ai10rzai10rz_j1 k x17 m2 m2_1 m2_2 m2_3 m2_4 m2_5 m2_6 m2_7 m2_8 m2_9 m2_10 m3 m3_1 m3_2 m3_3 m3_4 m3_5 m3_6 m3_7 m3_8 m3_9 m3_10 = some r) : finK Try.prog Try.f65 0 (EX 65 k (nav B65 [2,2]) (⟨92,[(2,.ptr 2 0),(3,.ptr 3 0),(17,.p (.bool x17))],[(2,.box 39 [.p (.int .i64 m2),.p (.int .i64 m2_1),.p (.int .u32 m2_2),.p (.int .i64 m2_3),.p (.int .i64 m2_4),.p (.int .i64 m2_5),.p (.int .i64 m2_6),.p (.int .i64 m2_7),.p (.int .i64 m2_8),.p (.int .i64 m2_9),.sl 1 (rowsOf (encI .u8) m2_10)]),(3,.box 39 [.p (.int .i64 m3),.p (.int .i64 m3_1),.p (.int .u32 m3_2),.p (.int .i64 m3_3),.p (.int .i64 m3_4),.p (.int .i64 m3_5),.p (.int .i64 m3_6),.p (.int .i64 m3_7),.p (.int .i64 m3_8),.p (.int .i64 m3_9),.sl 1 (rowsOf (encI .u8) m3_10)])]⟩ : St)) = some r.st := by
 unfold f65_ai10rzai10rz_j1 at hF
 obtain ⟨o1,h2,hF⟩ := bs hF
 have hc3 := f65_ai10rzai10rz_l2_ok k k 2 0 m2 m2_1 m2_2 m2_3 m2_4 m2_5 m2_6 m2_7 m2_8 m2_9 m2_10 m3 m3_1 m3_2 m3_3 m3_4 m3_5 m3_6 m3_7 m3_8 m3_9 m3_10 m3 m3_1 m3_2 m3_3 m3_4 m3_5 m3_6 m3_7 m3_8 m3_9 m3_10 _ h2
 simp (maxSteps:=999999) (disch:=first|exact D (by decide)|exact K (by kernel_rfl)) only [E,EE,↓reduceIte,simprocAttr,xk B65 [2,2] .sq rfl,rg B65 [1,2,2] 3 false rfl,hr_65_3,t_39,xk B65 [2,2,2] .sq rfl,xk B65 [1,2,2,2] .sq rfl,rg B65 [1,1,2,2,2] 4 false rfl,hr_65_4,fieldAddrV,t_3,bl_109,t_109,buildSliceV,fillRows,t_110,xk B65 [2,1,2,2,2] (.bk 0) rfl,xk B65 [2,2,1,2,2,2] .lp rfl,hh_65_5,hc_65_5]
 (try simp only [NM,EE] at hc3)
 rw [hc3 _ (by simp (maxSteps:=999999) (disch:=first|exact D (by decide)|exact K (by kernel_rfl)) only [E,EE,↓reduceIte,simprocAttr,hh_65_5,hc_65_5])]
 clear hc3
 cases o1 with
 | o0 _ _ _ _ _ _ _ _ _ _ _ _ _ _ _ _ _ _ _ _ _ _ _ _ _ _ _ _ _ _ _ _ _ _ _ =>
  (try dsimp only at hF)
  cases hF
 | o1 v4 v5 v6 v7 v8 v9 v10 v11 v12 v13 v14 v15 v16 v17 v18 v19 v20 v21 v22 v23 v24 v25 v26 v27 v28 v29 v30 v31 v32 v33 v34 v35 v36 v37 v38 v39 =>
  (try dsimp only at hF)
  have hJ := f65_ai10rzai10rz_j3_ok k v4 v5 v6 v7 v8 v9 v10 v11 v12 v13 v14 v15 v16 v17 v18 v19 v20 v21 v22 v23 v24 v25 v26 v27 v28 v29 v30 v31 v32 v33 v34 v35 v36 v37 v38 v39 _ hF
  simp (maxSteps:=999999) (disch:=first|exact D (by decide)|exact K (by kernel_rfl)) only [E,EE,↓reduceIte,simprocAttr,R65_ai10rzai10rz_l2.st]
  try simp only [NM,EE] at hJ
  exact hJ
noncomputable def f65_ai10rzai10rz_e (k:Nat) (a0 a0_1 a0_2 a0_3 a0_4 a0_5 a0_6 a0_7 a0_8 a0_9:Int) (a0_10:List Int) (a1 a1_1 a1_2 a1_3 a1_4 a1_5 a1_6 a1_7 a1_8 a1_9:Int) (a1_10:List Int) : Option R65_ai10rzai10rz :=
 Option.bind (f24_ai10rz k a0 a0_1 a0_2 a0_3 a0_4 a0_5 a0_6 a0_7 a0_8 a0_9 a0_10) fun o1 =>
  match o1 with
  | .o0 v4 =>
   cond ((v4 != 0))
    (some (R65_ai10rzai10rz.o0 false))
    (
     Option.bind (f24_ai10rz k a1 a1_1 a1_2 a1_3 a1_4 a1_5 a1_6 a1_7 a1_8 a1_9 a1_10) fun o6 =>
      match o6 with
      | .o0 v9 =>
       cond ((v9 != 0))
        (some (R65_ai10rzai10rz.o0 false))
        (f65_ai10rzai10rz_j1 k false a0 a0_1 a0_2 a0_3 a0_4 a0_5 a0_6 a0_7 a0_8 a0_9 a0_10 a1 a1_1 a1_2 a1_3 a1_4 a1_5 a1_6 a1_7 a1_8 a1_9 a1_10))
theorem f65_ai10rzai10rz_e_ok (k:Nat) (a0 a0_1 a0_2 a0_3 a0_4 a0_5 a0_6 a0_7 a0_8 a0_9:Int) (a0_10:List Int) (a1 a1_1 a1_2 a1_3 a1_4 a1_5 a1_6 a1_7 a1_8 a1_9:Int) (a1_10:List Int) (r:R65_ai10rzai10rz) (hF:f65_ai10rzai10rz_e k a0 a0_1 a0_2 a0_3 a0_4 a0_5 a0_6 a0_7 a0_8 a0_9 a0_10 a1 a1_1 a1_2 a1_3 a1_4 a1_5 a1_6 a1_7 a1_8 a1_9 a1_10 = some r) : finK Try.prog Try.f65 0 (EX 65 k (nav B65 []) (⟨92,[(0,.agg [.p (.int .i64 a0),.p (.int .i64 a0_1),.p (.int .u32 a0_2),.p (.int .i64 a0_3),.p (.int .i64 a0_4),.p (.int .i64 a0_5),.p (.int .i64 a0_6),.p (.int .i64 a0_7),.p (.int .i64 a0_8),.p (.int .i64 a0_9),.sl 1 (rowsOf (encI .u8) a0_10)]),(1,.agg [.p (.int .i64 a1),.p (.int .i64 a1_1),.p (.int .u32 a1_2),.p (.int .i64 a1_3),.p (.int .i64 a1_4),.p (.int .i64 a1_5),.p (.int .i64 a1_6),.p (.int .i64 a1_7),.p (.int .i64 a1_8),.p (.int .i64 a1_9),.sl 1 (rowsOf (encI .u8) a1_10)])],[]⟩ : St)) = some r.st := by
 unfold f65_ai10rzai10rz_e at hF
 obtain ⟨o1,h2,hF⟩ := bs hF
 have hc3 := f24_ai10rz_ok k a0 a0_1 a0_2 a0_3 a0_4 a0_5 a0_6 a0_7 a0_8 a0_9 a0_10 _ h2
 cases o1 with
 | o0 v4 =>
  (try dsimp only at hF)
  (try simp only [NM,EE,R24_ai10rz.st] at hc3)
  simp (maxSteps:=999999) (disch:=first|exact D (by decide)|exact K (by kernel_rfl)) only [E,EE,↓reduceIte,simprocAttr,xk B65 [] .sq rfl,rg B65 [1] 0 false rfl,hr_65_0,xk B65 [2] .sq rfl,xk B65 [1,2] .sq rfl,rg B65 [1,1,2] 1 false rfl,hr_65_1,t_39,callStep,CL,gv,List.contains,hc3]
  rcases cond_some hF with ⟨h5,hF⟩ | ⟨h5,hF⟩
  ·cases hF
   simp (maxSteps:=999999) (disch:=first|exact D (by decide)|exact K (by kernel_rfl)) only [E,EE,↓reduceIte,simprocAttr,xk B65 [2,1,2] (.cd 17) rfl,xk B65 [2,2,1,2] .sq rfl,rg B65 [1,2,2,1,2] 2 false rfl,hr_65_2,xk B65 [2,2,2,1,2] .rt rfl,finK_norm,finK_ret,fin65,R65_ai10rzai10rz.st,hc3,h5]
  ·obtain ⟨o6,h7,hF⟩ := bs hF
   have hc8 := f24_ai10rz_ok k a1 a1_1 a1_2 a1_3 a1_4 a1_5 a1_6 a1_7 a1_8 a1_9 a1_10 _ h7
   cases o6 with
   | o0 v9 =>
    (try dsimp only at hF)
    (try simp only [NM,EE,R24_ai10rz.st] at hc8)
    simp (maxSteps:=999999) (disch:=first|exact D (by decide)|exact K (by kernel_rfl)) only [E,EE,↓reduceIte,simprocAttr,t_39,callStep,CL,gv,List.contains,xk B65 [2,1,2] (.cd 17) rfl,hc3,h5,hc8]
    rcases cond_some hF with ⟨h10,hF⟩ | ⟨h10,hF⟩
    ·cases hF
     simp (maxSteps:=999999) (disch:=first|exact D (by decide)|exact K (by kernel_rfl)) only [E,EE,↓reduceIte,simprocAttr,xk B65 [2,2,1,2] .sq rfl,rg B65 [1,2,2,1,2] 2 false rfl,hr_65_2,xk B65 [2,2,2,1,2] .rt rfl,finK_norm,finK_ret,fin65,R65_ai10rzai10rz.st,hc3,h5,hc8,h10]
    ·have hJ := f65_ai10rzai10rz_j1_ok k false a0 a0_1 a0_2 a0_3 a0_4 a0_5 a0_6 a0_7 a0_8 a0_9 a0_10 a1 a1_1 a1_2 a1_3 a1_4 a1_5 a1_6 a1_7 a1_8 a1_9 a1_10 _ hF
     simp (maxSteps:=999999) (disch:=first|exact D (by decide)|exact K (by kernel_rfl)) only [E,EE,↓reduceIte,simprocAttr,xk B65 [3,2,1,2] .sk rfl,hc3,h5,hc8,h10]
     try simp only [NM,EE] at hJ
     exact hJ
noncomputable def f65_ai10rzai10rz (k:Nat) (a0 a0_1 a0_2 a0_3 a0_4 a0_5 a0_6 a0_7 a0_8 a0_9:Int) (a0_10:List Int) (a1 a1_1 a1_2 a1_3 a1_4 a1_5 a1_6 a1_7 a1_8 a1_9:Int) (a1_10:List Int) : Option R65_ai10rzai10rz := match k with | 0 => none | k + 1 => f65_ai10rzai10rz_e k a0 a0_1 a0_2 a0_3 a0_4 a0_5 a0_6 a0_7 a0_8 a0_9 a0_10 a1 a1_1 a1_2 a1_3 a1_4 a1_5 a1_6 a1_7 a1_8 a1_9 a1_10
theorem f65_ai10rzai10rz_ok (k:Nat) (a0 a0_1 a0_2 a0_3 a0_4 a0_5 a0_6 a0_7 a0_8 a0_9:Int) (a0_10:List Int) (a1 a1_1 a1_2 a1_3 a1_4 a1_5 a1_6 a1_7 a1_8 a1_9:Int) (a1_10:List Int) (r:R65_ai10rzai10rz) (hF:f65_ai10rzai10rz k a0 a0_1 a0_2 a0_3 a0_4 a0_5 a0_6 a0_7 a0_8 a0_9 a0_10 a1 a1_1 a1_2 a1_3 a1_4 a1_5 a1_6 a1_7 a1_8 a1_9 a1_10 = some r) : CV k 65 [.agg [.p (.int .i64 a0),.p (.int .i64 a0_1),.p (.int .u32 a0_2),.p (.int .i64 a0_3),.p (.int .i64 a0_4),.p (.int .i64 a0_5),.p (.int .i64 a0_6),.p (.int .i64 a0_7),.p (.int .i64 a0_8),.p (.int .i64 a0_9),.sl 1 (rowsOf (encI .u8) a0_10)],.agg [.p (.int .i64 a1),.p (.int .i64 a1_1),.p (.int .u32 a1_2),.p (.int .i64 a1_3),.p (.int .i64 a1_4),.p (.int .i64 a1_5),.p (.int .i64 a1_6),.p (.int .i64 a1_7),.p (.int .i64 a1_8),.p (.int .i64 a1_9),.sl 1 (rowsOf (encI .u8) a1_10)]] [] = some r.st := by
 cases k with
 | zero => cases hF
 | succ k =>
  unfold CV
  rw [ev_call (F := Try.f65) (c := (nav B65 [])) rfl Try.func65 rfl rfl rfl rfl]
  exact f65_ai10rzai10rz_e_ok k a0 a0_1 a0_2 a0_3 a0_4 a0_5 a0_6 a0_7 a0_8 a0_9 a0_10 a1 a1_1 a1_2 a1_3 a1_4 a1_5 a1_6 a1_7 a1_8 a1_9 a1_10 r hF
end Go.Proofs.YticggdfaehneeaaV