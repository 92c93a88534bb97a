/- What the program's functions answer: plain functions,and that the interpreter answers what they do. Written by a program of this session,out of the translation. -/
import Derived.Test.YticggdfaehneeaaVP10
namespace Go.Proofs.YticggdfaehneeaaV
open Go
set_option linter.unusedVariables false
set_option linter.unusedSimpArgs false
set_option maxRecDepth 8000
set_option maxHeartbeats 4000000
-- f28_r: f28 heliograph/heliographref19.Whole
inductive R28_r where
 | o0 (y:List Int) (y_1:Int) (y_2:Bool)
 | o1 (y:Int) (y_1:Bool) (y_2:List Int)
noncomputable def R28_r.st : R28_r → V × List O × List O
 | .o0 y y_1 y_2 => (V.tup [.sl 1 (rowsOf (encI .u8) y),.p (.int .i64 y_1),.p (.bool y_2)],[],[])
 | .o1 y y_1 y_2 => (V.tup [.own 2000000,.p (.int .i64 y),.p (.bool y_1)],[],[.row true 1 5 (rowsOf (encI .u8) y_2)])
inductive R28_r_l1_l3 where
 | o0 (y:List Int) (y_1:Int) (y_2:Bool)
 | o1 (y:List T39) (y_1 y_2 y_3:Int) (y_4:List Int) (y_5:List Bool)
 | o2 (y:List T39) (y_1 y_2 y_3:Int) (y_4:Bool) (y_5:List Int) (y_6:List Bool)
noncomputable def R28_r_l1_l3.st : R28_r_l1_l3 → Out × St
 | .o0 y y_1 y_2 => (.ret,(⟨103,[(2,.sl 1 (rowsOf (encI .u8) y)),(3,.p (.int .i64 y_1)),(4,.p (.bool y_2))],[]⟩ : St))
 | .o1 y y_1 y_2 y_3 y_4 y_5 => (.norm,(⟨103,[(0,.sl 11 (rowsOf encT39 y)),(5,.own 30000),(6,.own 30001),(7,.p (.int .i64 y_1)),(8,.p (.int .i64 y_2)),(9,.p (.int .i64 y_3))],[(30000,.row true 1 5 (rowsOf (encI .u8) y_4)),(30001,.row true 1 4 (rowsOf encB y_5))]⟩ : St))
 | .o2 y y_1 y_2 y_3 y_4 y_5 y_6 => (.exit 2,(⟨103,[(0,.sl 11 (rowsOf encT39 y)),(5,.own 30000),(6,.own 30001),(7,.p (.int .i64 y_1)),(8,.p (.int .i64 y_2)),(9,.p (.int .i64 y_3)),(51,.p (.bool y_4))],[(30000,.row true 1 5 (rowsOf (encI .u8) y_5)),(30001,.row true 1 4 (rowsOf encB y_6))]⟩ : St))
noncomputable def f28_r_l1_l3_j4 (k:Nat) (x0:List T39) (x7 x8 x9:Int) (h0_:List Int) (h1_:List Bool) : Option R28_r_l1_l3 :=
 some (R28_r_l1_l3.o1 x0 x7 x8 (IntKind.i64.wrap (x9 + (1:Int))) h0_ h1_)
theorem f28_r_l1_l3_j4_ok (k:Nat) (x0:List T39) (x7 x8 x9:Int) (h0_:List Int) (h1_:List Bool) (r:R28_r_l1_l3) (hF:f28_r_l1_l3_j4 k x0 x7 x8 x9 h0_ h1_ = some r) : EX 28 k (nav B28 [2,2,1,2,2,2,2,1,2,1,2,2,1,2,2,2,2]) (⟨103,[(0,.sl 11 (rowsOf encT39 x0)),(5,.own 30000),(6,.own 30001),(7,.p (.int .i64 x7)),(8,.p (.int .i64 x8)),(9,.p (.int .i64 x9))],[(30000,.row true 1 5 (rowsOf (encI .u8) h0_)),(30001,.row true 1 4 (rowsOf encB h1_))]⟩ : St) = some r.st := by
 unfold f28_r_l1_l3_j4 at hF
 cases hF
 simp (maxSteps:=999999) (disch:=first|exact D (by decide)|exact K (by kernel_rfl)) only [E,EE,↓reduceIte,simprocAttr,rg B28 [2,2,1,2,2,2,2,1,2,1,2,2,1,2,2,2,2] 11 false rfl,hr_28_11,R28_r_l1_l3.st]
noncomputable def f28_r_l1_l3_j3 (k:Nat) (x0:List T39) (x7 x8 x9 x10:Int) (h0_:List Int) (h1_:List Bool) : Option R28_r_l1_l3 :=
 ifE ((0:Int) ≤ x10) (
  ifE (x10 < ((List.length h1_) : Int)) (
   Option.bind (h1_[(Int.toNat x10)]?) fun v3 =>
    ifE ((0:Int) ≤ x8) (
     Option.bind (x0[(Int.toNat x8)]?) fun v7 =>
      ifE ((0:Int) ≤ x9) (
       Option.bind (v7.Payload[(Int.toNat x9)]?) fun v10 =>
        ifE (x10 < ((List.length h0_) : Int)) (
         Option.bind (h0_[(Int.toNat x10)]?) fun v13 =>
          f28_r_l1_l3_j4 k x0 x7 x8 x9 (List.set h0_ (Int.toNat x10) v10) (List.set h1_ (Int.toNat x10) true))))))
theorem f28_r_l1_l3_j3_ok (k:Nat) (x0:List T39) (x7 x8 x9 x10:Int) (h0_:List Int) (h1_:List Bool) (r:R28_r_l1_l3) (hF:f28_r_l1_l3_j3 k x0 x7 x8 x9 x10 h0_ h1_ = some r) : SQ 28 k (nav B28 [2,2,1,2,2,2,2,1,2,1,2,2,1,2,2,2,2]) (blockK 3 (EX 28 k (nav B28 [2,2,2,2,1,2,1,2,2,2,2,1,2,1,2,2,1,2,2,2,2]) (⟨103,[(0,.sl 11 (rowsOf encT39 x0)),(5,.own 30000),(6,.own 30001),(7,.p (.int .i64 x7)),(8,.p (.int .i64 x8)),(9,.p (.int .i64 x9)),(10,.p (.int .i64 x10))],[(30000,.row true 1 5 (rowsOf (encI .u8) h0_)),(30001,.row true 1 4 (rowsOf encB h1_))]⟩ : St))) = some r.st := by
 unfold f28_r_l1_l3_j3 at hF
 obtain ⟨h1,hF⟩ := ifE_some.1 hF
 obtain ⟨h2,hF⟩ := ifE_some.1 hF
 obtain ⟨v3,h4,hF⟩ := bs hF
 have q5 : List.set (rowsOf encB h1_) (Int.toNat x10) [.p (.bool true)] = rowsOf encB (List.set h1_ (Int.toNat x10) true) := (rowsOf_set (enc := encB) (l := h1_) (i := (Int.toNat x10)) (x := true)).symm
 obtain ⟨h6,hF⟩ := ifE_some.1 hF
 obtain ⟨v7,h8,hF⟩ := bs hF
 obtain ⟨h9,hF⟩ := ifE_some.1 hF
 obtain ⟨v10,h11,hF⟩ := bs hF
 obtain ⟨h12,hF⟩ := ifE_some.1 hF
 obtain ⟨v13,h14,hF⟩ := bs hF
 have q15 : List.set (rowsOf (encI .u8) h0_) (Int.toNat x10) [.p (.int .u8 v10)] = rowsOf (encI .u8) (List.set h0_ (Int.toNat x10) v10) := (rowsOf_set (enc := (encI .u8)) (l := h0_) (i := (Int.toNat x10)) (x := v10)).symm
 have hJ := f28_r_l1_l3_j4_ok k x0 x7 x8 x9 (List.set h0_ (Int.toNat x10) v10) (List.set h1_ (Int.toNat x10) true) _ hF
 simp (maxSteps:=999999) (disch:=first|exact D (by decide)|exact K (by kernel_rfl)) only [E,EE,↓reduceIte,simprocAttr,xk B28 [2,2,2,2,1,2,1,2,2,2,2,1,2,1,2,2,1,2,2,2,2] .sq rfl,rg B28 [1,2,2,2,2,1,2,1,2,2,2,2,1,2,1,2,2,1,2,2,2,2] 17 false rfl,hr_28_17,indexAddrV,t_90,t_4,sm_4,encB_eq,rg B28 [2,2,2,2,2,1,2,1,2,2,2,2,1,2,1,2,2,1,2,2,2,2] 18 false rfl,hr_28_18,t_24,t_39,encT39_eq,fieldAddrV,t_29,t_5,encI_eq,sm_5,h1,h2,h4,q5,h6,h8,h9,h11,h12,h14,q15]
 try simp only [NM,EE] at hJ
 exact hJ
noncomputable def f28_r_l1_l3_j5 (k:Nat) (x0:List T39) (x7 x8 x9 x10:Int) (x84:Bool) (h0_:List Int) (h1_:List Bool) : Option R28_r_l1_l3 :=
 ifE ((0:Int) ≤ x10) (
  ifE (x10 < ((List.length h1_) : Int)) (
   Option.bind (h1_[(Int.toNat x10)]?) fun v3 =>
    ifE ((0:Int) ≤ x8) (
     Option.bind (x0[(Int.toNat x8)]?) fun v7 =>
      ifE ((0:Int) ≤ x9) (
       Option.bind (v7.Payload[(Int.toNat x9)]?) fun v10 =>
        ifE (x10 < ((List.length h0_) : Int)) (
         Option.bind (h0_[(Int.toNat x10)]?) fun v13 =>
          f28_r_l1_l3_j4 k x0 x7 x8 x9 (List.set h0_ (Int.toNat x10) v10) (List.set h1_ (Int.toNat x10) true))))))
theorem f28_r_l1_l3_j5_ok (k:Nat) (x0:List T39) (x7 x8 x9 x10:Int) (x84:Bool) (h0_:List Int) (h1_:List Bool) (r:R28_r_l1_l3) (hF:f28_r_l1_l3_j5 k x0 x7 x8 x9 x10 x84 h0_ h1_ = some r) : SQ 28 k (nav B28 [2,2,1,2,2,2,2,1,2,1,2,2,1,2,2,2,2]) (blockK 3 (EX 28 k (nav B28 [2,2,2,2,1,2,1,2,2,2,2,1,2,1,2,2,1,2,2,2,2]) (⟨103,[(0,.sl 11 (rowsOf encT39 x0)),(5,.own 30000),(6,.own 30001),(7,.p (.int .i64 x7)),(8,.p (.int .i64 x8)),(9,.p (.int .i64 x9)),(10,.p (.int .i64 x10)),(84,.p (.bool x84))],[(30000,.row true 1 5 (rowsOf (encI .u8) h0_)),(30001,.row true 1 4 (rowsOf encB h1_))]⟩ : St))) = some r.st := by
 unfold f28_r_l1_l3_j5 at hF
 obtain ⟨h1,hF⟩ := ifE_some.1 hF
 obtain ⟨h2,hF⟩ := ifE_some.1 hF
 obtain ⟨v3,h4,hF⟩ := bs hF
 have q5 : List.set (rowsOf encB h1_) (Int.toNat x10) [.p (.bool true)] = rowsOf encB (List.set h1_ (Int.toNat x10) true) := (rowsOf_set (enc := encB) (l := h1_) (i := (Int.toNat x10)) (x := true)).symm
 obtain ⟨h6,hF⟩ := ifE_some.1 hF
 obtain ⟨v7,h8,hF⟩ := bs hF
 obtain ⟨h9,hF⟩ := ifE_some.1 hF
 obtain ⟨v10,h11,hF⟩ := bs hF
 obtain ⟨h12,hF⟩ := ifE_some.1 hF
 obtain ⟨v13,h14,hF⟩ := bs hF
 have q15 : List.set (rowsOf (encI .u8) h0_) (Int.toNat x10) [.p (.int .u8 v10)] = rowsOf (encI .u8) (List.set h0_ (Int.toNat x10) v10) := (rowsOf_set (enc := (encI .u8)) (l := h0_) (i := (Int.toNat x10)) (x := v10)).symm
 have hJ := f28_r_l1_l3_j4_ok k x0 x7 x8 x9 (List.set h0_ (Int.toNat x10) v10) (List.set h1_ (Int.toNat x10) true) _ hF
 simp (maxSteps:=999999) (disch:=first|exact D (by decide)|exact K (by kernel_rfl)) only [E,EE,↓reduceIte,simprocAttr,xk B28 [2,2,2,2,1,2,1,2,2,2,2,1,2,1,2,2,1,2,2,2,2] .sq rfl,rg B28 [1,2,2,2,2,1,2,1,2,2,2,2,1,2,1,2,2,1,2,2,2,2] 17 false rfl,hr_28_17,indexAddrV,t_90,t_4,sm_4,encB_eq,rg B28 [2,2,2,2,2,1,2,1,2,2,2,2,1,2,1,2,2,1,2,2,2,2] 18 false rfl,hr_28_18,t_24,t_39,encT39_eq,fieldAddrV,t_29,t_5,encI_eq,sm_5,h1,h2,h4,q5,h6,h8,h9,h11,h12,h14,q15]
 try simp only [NM,EE] at hJ
 exact hJ
noncomputable def f28_r_l1_l3_j2 (k:Nat) (x0:List T39) (x7 x8 x9 x10:Int) (x79:Bool) (h0_:List Int) (h1_:List Bool) : Option R28_r_l1_l3 :=
 ifE ((0:Int) ≤ x10) (
  ifE (x10 < ((List.length h1_) : Int)) (
   Option.bind (h1_[(Int.toNat x10)]?) fun v3 =>
    cond ((!v3))
     (f28_r_l1_l3_j3 k x0 (IntKind.i64.wrap (x7 + (1:Int))) x8 x9 x10 h0_ h1_)
     (f28_r_l1_l3_j5 k x0 x7 x8 x9 x10 false h0_ h1_)))
theorem f28_r_l1_l3_j2_ok (k:Nat) (x0:List T39) (x7 x8 x9 x10:Int) (x79:Bool) (h0_:List Int) (h1_:List Bool) (r:R28_r_l1_l3) (hF:f28_r_l1_l3_j2 k x0 x7 x8 x9 x10 x79 h0_ h1_ = some r) : SQ 28 k (nav B28 [2,2,1,2,2,2,2,1,2,1,2,2,1,2,2,2,2]) (blockK 3 (EX 28 k (nav B28 [2,2,2,1,2,1,2,2,2,2,1,2,1,2,2,1,2,2,2,2]) (⟨103,[(0,.sl 11 (rowsOf encT39 x0)),(5,.own 30000),(6,.own 30001),(7,.p (.int .i64 x7)),(8,.p (.int .i64 x8)),(9,.p (.int .i64 x9)),(10,.p (.int .i64 x10)),(79,.p (.bool x79))],[(30000,.row true 1 5 (rowsOf (encI .u8) h0_)),(30001,.row true 1 4 (rowsOf encB h1_))]⟩ : St))) = some r.st := by
 unfold f28_r_l1_l3_j2 at hF
 obtain ⟨h1,hF⟩ := ifE_some.1 hF
 obtain ⟨h2,hF⟩ := ifE_some.1 hF
 obtain ⟨v3,h4,hF⟩ := bs hF
 simp (maxSteps:=999999) (disch:=first|exact D (by decide)|exact K (by kernel_rfl)) only [E,EE,↓reduceIte,simprocAttr,xk B28 [2,2,2,1,2,1,2,2,2,2,1,2,1,2,2,1,2,2,2,2] .sq rfl,xk B28 [1,2,2,2,1,2,1,2,2,2,2,1,2,1,2,2,1,2,2,2,2] .sq rfl,rg B28 [1,1,2,2,2,1,2,1,2,2,2,2,1,2,1,2,2,1,2,2,2,2] 15 false rfl,hr_28_15,indexAddrV,t_90,t_4,encB_eq,xk B28 [2,1,2,2,2,1,2,1,2,2,2,2,1,2,1,2,2,1,2,2,2,2] (.cd 84) rfl,h1,h2,h4]
 rcases cond_some hF with ⟨h5,hF⟩ | ⟨h5,hF⟩
 ·have hJ := f28_r_l1_l3_j3_ok k x0 (IntKind.i64.wrap (x7 + (1:Int))) x8 x9 x10 h0_ h1_ _ hF
  simp (maxSteps:=999999) (disch:=first|exact D (by decide)|exact K (by kernel_rfl)) only [E,EE,↓reduceIte,simprocAttr,rg B28 [2,2,1,2,2,2,1,2,1,2,2,2,2,1,2,1,2,2,1,2,2,2,2] 16 false rfl,hr_28_16,h1,h2,h4,h5]
  try simp only [NM,EE] at hJ
  exact hJ
 ·have hJ := f28_r_l1_l3_j5_ok k x0 x7 x8 x9 x10 false h0_ h1_ _ hF
  simp (maxSteps:=999999) (disch:=first|exact D (by decide)|exact K (by kernel_rfl)) only [E,EE,↓reduceIte,simprocAttr,xk B28 [3,2,1,2,2,2,1,2,1,2,2,2,2,1,2,1,2,2,1,2,2,2,2] .sk rfl,h1,h2,h4,h5]
  try simp only [NM,EE] at hJ
  exact hJ
noncomputable def f28_r_l1_l3_j1 (k:Nat) (x0:List T39) (x7 x8 x9:Int) (x51:Bool) (h0_:List Int) (h1_:List Bool) : Option R28_r_l1_l3 :=
 ifE ((0:Int) ≤ x8) (
  Option.bind (x0[(Int.toNat x8)]?) fun v2 =>
   ifE ((0:Int) ≤ (IntKind.i64.wrap (v2.Offset + x9))) (
    ifE ((IntKind.i64.wrap (v2.Offset + x9)) < ((List.length h1_) : Int)) (
     Option.bind (h1_[(Int.toNat (IntKind.i64.wrap (v2.Offset + x9)))]?) fun v6 =>
      cond (v6)
       (
        ifE ((IntKind.i64.wrap (v2.Offset + x9)) < ((List.length h0_) : Int)) (
         Option.bind (h0_[(Int.toNat (IntKind.i64.wrap (v2.Offset + x9)))]?) fun v10 =>
          ifE ((0:Int) ≤ x9) (
           Option.bind (v2.Payload[(Int.toNat x9)]?) fun v13 =>
            cond ((v10 != v13))
             (some (R28_r_l1_l3.o0 [] 0 false))
             (f28_r_l1_l3_j2 k x0 x7 x8 x9 (IntKind.i64.wrap (v2.Offset + x9)) false h0_ h1_))))
       (f28_r_l1_l3_j2 k x0 x7 x8 x9 (IntKind.i64.wrap (v2.Offset + x9)) false h0_ h1_))))
theorem f28_r_l1_l3_j1_ok (k:Nat) (x0:List T39) (x7 x8 x9:Int) (x51:Bool) (h0_:List Int) (h1_:List Bool) (r:R28_r_l1_l3) (hF:f28_r_l1_l3_j1 k x0 x7 x8 x9 x51 h0_ h1_ = some r) : EX 28 k (nav B28 [2,1,2,2,2,2,1,2,1,2,2,1,2,2,2,2]) (⟨103,[(0,.sl 11 (rowsOf encT39 x0)),(5,.own 30000),(6,.own 30001),(7,.p (.int .i64 x7)),(8,.p (.int .i64 x8)),(9,.p (.int .i64 x9)),(51,.p (.bool x51))],[(30000,.row true 1 5 (rowsOf (encI .u8) h0_)),(30001,.row true 1 4 (rowsOf encB h1_))]⟩ : St) = some r.st := by
 unfold f28_r_l1_l3_j1 at hF
 obtain ⟨h1,hF⟩ := ifE_some.1 hF
 obtain ⟨v2,h3,hF⟩ := bs hF
 obtain ⟨h4,hF⟩ := ifE_some.1 hF
 obtain ⟨h5,hF⟩ := ifE_some.1 hF
 obtain ⟨v6,h7,hF⟩ := bs hF
 simp (maxSteps:=999999) (disch:=first|exact D (by decide)|exact K (by kernel_rfl)) only [E,EE,↓reduceIte,simprocAttr,xk B28 [2,1,2,2,2,2,1,2,1,2,2,1,2,2,2,2] .sq rfl,xk B28 [1,2,1,2,2,2,2,1,2,1,2,2,1,2,2,2,2] (.bk 3) rfl,xk B28 [2,1,2,1,2,2,2,2,1,2,1,2,2,1,2,2,2,2] .sq rfl,rg B28 [1,2,1,2,1,2,2,2,2,1,2,1,2,2,1,2,2,2,2] 12 false rfl,hr_28_12,indexAddrV,t_24,t_39,encT39_eq,fieldAddrV,t_3,xk B28 [2,2,1,2,1,2,2,2,2,1,2,1,2,2,1,2,2,2,2] .sq rfl,xk B28 [1,2,2,1,2,1,2,2,2,2,1,2,1,2,2,1,2,2,2,2] .sq rfl,rg B28 [1,1,2,2,1,2,1,2,2,2,2,1,2,1,2,2,1,2,2,2,2] 13 true rfl,hr_28_13,t_90,t_4,encB_eq,h1,h3,h4,h5,h7]
 rcases cond_some hF with ⟨h8,hF⟩ | ⟨h8,hF⟩
 ·obtain ⟨h9,hF⟩ := ifE_some.1 hF
  obtain ⟨v10,h11,hF⟩ := bs hF
  obtain ⟨h12,hF⟩ := ifE_some.1 hF
  obtain ⟨v13,h14,hF⟩ := bs hF
  simp (maxSteps:=999999) (disch:=first|exact D (by decide)|exact K (by kernel_rfl)) only [E,EE,↓reduceIte,simprocAttr,indexAddrV,t_29,t_5,encI_eq,t_24,t_39,encT39_eq,fieldAddrV,xk B28 [2,1,2,2,1,2,1,2,2,2,2,1,2,1,2,2,1,2,2,2,2] (.cd 79) rfl,h1,h3,h4,h5,h7,h8,h9,h11,h12,h14]
  rcases cond_some hF with ⟨h15,hF⟩ | ⟨h15,hF⟩
  ·cases hF
   simp (maxSteps:=999999) (disch:=first|exact D (by decide)|exact K (by kernel_rfl)) only [E,EE,↓reduceIte,simprocAttr,xk B28 [2,2,1,2,2,1,2,1,2,2,2,2,1,2,1,2,2,1,2,2,2,2] .sq rfl,rg B28 [1,2,2,1,2,2,1,2,1,2,2,2,2,1,2,1,2,2,1,2,2,2,2] 14 false rfl,hr_28_14,xk B28 [2,2,2,1,2,2,1,2,1,2,2,2,2,1,2,1,2,2,1,2,2,2,2] .rt rfl,R28_r_l1_l3.st,h1,h3,h4,h5,h7,h8,h9,h11,h12,h14,h15]
  ·have hJ := f28_r_l1_l3_j2_ok k x0 x7 x8 x9 (IntKind.i64.wrap (v2.Offset + x9)) false h0_ h1_ _ hF
   simp (maxSteps:=999999) (disch:=first|exact D (by decide)|exact K (by kernel_rfl)) only [E,EE,↓reduceIte,simprocAttr,xk B28 [3,2,1,2,2,1,2,1,2,2,2,2,1,2,1,2,2,1,2,2,2,2] .sk rfl,h1,h3,h4,h5,h7,h8,h9,h11,h12,h14,h15]
   try simp only [NM,EE] at hJ
   exact hJ
 ·have hJ := f28_r_l1_l3_j2_ok k x0 x7 x8 x9 (IntKind.i64.wrap (v2.Offset + x9)) false h0_ h1_ _ hF
  simp (maxSteps:=999999) (disch:=first|exact D (by decide)|exact K (by kernel_rfl)) only [E,EE,↓reduceIte,simprocAttr,xk B28 [2,1,2,2,1,2,1,2,2,2,2,1,2,1,2,2,1,2,2,2,2] (.cd 79) rfl,xk B28 [3,2,1,2,2,1,2,1,2,2,2,2,1,2,1,2,2,1,2,2,2,2] .sk rfl,h1,h3,h4,h5,h7,h8]
  try simp only [NM,EE] at hJ
  exact hJ
noncomputable def f28_r_l1_l3_b (k:Nat) (x0:List T39) (x7 x8 x9:Int) (h0_:List Int) (h1_:List Bool) : Option R28_r_l1_l3 :=
 ifE ((0:Int) ≤ x8) (
  Option.bind (x0[(Int.toNat x8)]?) fun v2 =>
   cond ((decide (x9 < ((List.length v2.Payload) : Int))))
    (f28_r_l1_l3_j1 k x0 x7 x8 x9 true h0_ h1_)
    (some (R28_r_l1_l3.o2 x0 x7 x8 x9 false h0_ h1_)))
theorem f28_r_l1_l3_b_ok (k:Nat) (x0:List T39) (x7 x8 x9:Int) (h0_:List Int) (h1_:List Bool) (r:R28_r_l1_l3) (hF:f28_r_l1_l3_b k x0 x7 x8 x9 h0_ h1_ = some r) : EX 28 k (nav B28 [1,2,2,2,2,1,2,1,2,2,1,2,2,2,2]) (⟨103,[(0,.sl 11 (rowsOf encT39 x0)),(5,.own 30000),(6,.own 30001),(7,.p (.int .i64 x7)),(8,.p (.int .i64 x8)),(9,.p (.int .i64 x9))],[(30000,.row true 1 5 (rowsOf (encI .u8) h0_)),(30001,.row true 1 4 (rowsOf encB h1_))]⟩ : St) = some r.st := by
 unfold f28_r_l1_l3_b at hF
 obtain ⟨h1,hF⟩ := ifE_some.1 hF
 obtain ⟨v2,h3,hF⟩ := bs hF
 simp (maxSteps:=999999) (disch:=first|exact D (by decide)|exact K (by kernel_rfl)) only [E,EE,↓reduceIte,simprocAttr,xk B28 [1,2,2,2,2,1,2,1,2,2,1,2,2,2,2] .sq rfl,xk B28 [1,1,2,2,2,2,1,2,1,2,2,1,2,2,2,2] .sq rfl,rg B28 [1,1,1,2,2,2,2,1,2,1,2,2,1,2,2,2,2] 10 false rfl,hr_28_10,indexAddrV,t_24,t_39,encT39_eq,fieldAddrV,t_29,xk B28 [2,1,1,2,2,2,2,1,2,1,2,2,1,2,2,2,2] (.cd 51) rfl,h1,h3]
 rcases cond_some hF with ⟨h4,hF⟩ | ⟨h4,hF⟩
 ·have hJ := f28_r_l1_l3_j1_ok k x0 x7 x8 x9 true h0_ h1_ _ hF
  simp (maxSteps:=999999) (disch:=first|exact D (by decide)|exact K (by kernel_rfl)) only [E,EE,↓reduceIte,simprocAttr,xk B28 [2,2,1,1,2,2,2,2,1,2,1,2,2,1,2,2,2,2] .sk rfl,h1,h3,h4]
  try simp only [NM,EE] at hJ
  exact hJ
 ·cases hF
  simp (maxSteps:=999999) (disch:=first|exact D (by decide)|exact K (by kernel_rfl)) only [E,EE,↓reduceIte,simprocAttr,xk B28 [3,2,1,1,2,2,2,2,1,2,1,2,2,1,2,2,2,2] (.ex 2) rfl,R28_r_l1_l3.st,h1,h3,h4]
noncomputable def f28_r_l1_l3 (k:Nat) : Nat → (List T39) → Int → Int → Int → (List Int) → (List Bool) → Option R28_r_l1_l3
 | 0,_,_,_,_,_,_ => none
 | n + 1,x0,x7,x8,x9,h0_,h1_ => Option.bind (f28_r_l1_l3_b k x0 x7 x8 x9 h0_ h1_) fun o =>
  match o with
  | .o0 y y_1 y_2 => some (.o0 y y_1 y_2)
  | .o1 y y_1 y_2 y_3 y_4 y_5 => f28_r_l1_l3 k n y y_1 y_2 y_3 y_4 y_5
  | .o2 y y_1 y_2 y_3 y_4 y_5 y_6 => some (.o2 y y_1 y_2 y_3 y_4 y_5 y_6)
theorem f28_r_l1_l3_ok (k n:Nat) : ∀ (x0:List T39) (x7 x8 x9:Int) (h0_:List Int) (h1_:List Bool) (r:R28_r_l1_l3) (hF:f28_r_l1_l3 k n x0 x7 x8 x9 h0_ h1_ = some r) (σ:St) (hσ:headR (hints.head 28 10) (hints.canon 28 10) σ = some (⟨103,[(0,.sl 11 (rowsOf encT39 x0)),(5,.own 30000),(6,.own 30001),(7,.p (.int .i64 x7)),(8,.p (.int .i64 x8)),(9,.p (.int .i64 x9))],[(30000,.row true 1 5 (rowsOf (encI .u8) h0_)),(30001,.row true 1 4 (rowsOf encB h1_))]⟩ : St)),LP 28 k (nav B28 [1,2,2,2,2,1,2,1,2,2,1,2,2,2,2]) n σ = some r.st := by
 induction n with
 | zero => intro x0 x7 x8 x9 h0_ h1_ r hF; cases hF
 | succ n ih =>
  intro x0 x7 x8 x9 h0_ h1_ r hF σ hσ
  rw [f28_r_l1_l3] at hF
  obtain ⟨o,h,hF⟩ := Option.bind_eq_some_iff.1 hF
  have hB := f28_r_l1_l3_b_ok k x0 x7 x8 x9 h0_ h1_ o h
  unfold LP at ih ⊢
  unfold EX at hB
  rw [loopK_succ,show firstReg (nav B28 [1,2,2,2,2,1,2,1,2,2,1,2,2,2,2]) = 10 from rfl,hσ,headK_some,hB]
  cases o with
  | o0 y y_1 y_2 => cases hF; rfl
  | o1 y y_1 y_2 y_3 y_4 y_5 =>
   refine ih y y_1 y_2 y_3 y_4 y_5 r hF _ ?_
   simp (maxSteps:=999999) (disch:=first|exact D (by decide)|exact K (by kernel_rfl)) only [E,EE,↓reduceIte,simprocAttr,hh_28_10,hc_28_10]
  | o2 y y_1 y_2 y_3 y_4 y_5 y_6 => cases hF; rfl
inductive R28_r_l1 where
 | o0 (y:List Int) (y_1:Int) (y_2:Bool)
 | o1 (y:List T39) (y_1 y_2:Int) (y_3:List Int) (y_4:List Bool)
 | o2 (y:List T39) (y_1 y_2:Int) (y_3:Bool) (y_4:List Int) (y_5:List Bool)
noncomputable def R28_r_l1.st : R28_r_l1 → Out × St
 | .o0 y y_1 y_2 => (.ret,(⟨103,[(2,.sl 1 (rowsOf (encI .u8) y)),(3,.p (.int .i64 y_1)),(4,.p (.bool y_2))],[]⟩ : St))
 | .o1 y y_1 y_2 y_3 y_4 => (.norm,(⟨103,[(0,.sl 11 (rowsOf encT39 y)),(5,.own 30000),(6,.own 30001),(7,.p (.int .i64 y_1)),(8,.p (.int .i64 y_2))],[(30000,.row true 1 5 (rowsOf (encI .u8) y_3)),(30001,.row true 1 4 (rowsOf encB y_4))]⟩ : St))
 | .o2 y y_1 y_2 y_3 y_4 y_5 => (.exit 0,(⟨103,[(0,.sl 11 (rowsOf encT39 y)),(5,.own 30000),(6,.own 30001),(7,.p (.int .i64 y_1)),(8,.p (.int .i64 y_2)),(24,.p (.bool y_3))],[(30000,.row true 1 5 (rowsOf (encI .u8) y_4)),(30001,.row true 1 4 (rowsOf encB y_5))]⟩ : St))
noncomputable def f28_r_l1_j4 (k:Nat) (x0:List T39) (x7 x8 x9:Int) (x51:Bool) (h0_:List Int) (h1_:List Bool) : Option R28_r_l1 :=
 some (R28_r_l1.o1 x0 x7 (IntKind.i64.wrap (x8 + (1:Int))) h0_ h1_)
theorem f28_r_l1_j4_ok (k:Nat) (x0:List T39) (x7 x8 x9:Int) (x51:Bool) (h0_:List Int) (h1_:List Bool) (r:R28_r_l1) (hF:f28_r_l1_j4 k x0 x7 x8 x9 x51 h0_ h1_ = some r) : EX 28 k (nav B28 [2,2,1,2,2,1,2,2,2,2]) (⟨103,[(0,.sl 11 (rowsOf encT39 x0)),(5,.own 30000),(6,.own 30001),(7,.p (.int .i64 x7)),(8,.p (.int .i64 x8)),(9,.p (.int .i64 x9)),(51,.p (.bool x51))],[(30000,.row true 1 5 (rowsOf (encI .u8) h0_)),(30001,.row true 1 4 (rowsOf encB h1_))]⟩ : St) = some r.st := by
 unfold f28_r_l1_j4 at hF
 cases hF
 simp (maxSteps:=999999) (disch:=first|exact D (by decide)|exact K (by kernel_rfl)) only [E,EE,↓reduceIte,simprocAttr,rg B28 [2,2,1,2,2,1,2,2,2,2] 6 false rfl,hr_28_6,R28_r_l1.st]
noncomputable def f28_r_l1_j2 (k:Nat) (x0:List T39) (x7 x8:Int) (x43:Bool) (h0_:List Int) (h1_:List Bool) : Option R28_r_l1 :=
 Option.bind (f28_r_l1_l3 k k x0 x7 x8 0 h0_ h1_) fun o1 =>
  match o1 with
  | .o0 v4 v5 v6 =>
   some (R28_r_l1.o0 v4 v5 v6)
  | .o1 _ _ _ _ _ _ =>
   none
  | .o2 v7 v8 v9 v10 v11 v12 v13 =>
   f28_r_l1_j4 k v7 v8 v9 v10 v11 v12 v13
theorem f28_r_l1_j2_ok (k:Nat) (x0:List T39) (x7 x8:Int) (x43:Bool) (h0_:List Int) (h1_:List Bool) (r:R28_r_l1) (hF:f28_r_l1_j2 k x0 x7 x8 x43 h0_ h1_ = some r) : SQ 28 k (nav B28 [2,2,1,2,2,1,2,2,2,2]) (blockK 1 (EX 28 k (nav B28 [2,2,1,2,1,2,2,1,2,2,2,2]) (⟨103,[(0,.sl 11 (rowsOf encT39 x0)),(5,.own 30000),(6,.own 30001),(7,.p (.int .i64 x7)),(8,.p (.int .i64 x8)),(43,.p (.bool x43))],[(30000,.row true 1 5 (rowsOf (encI .u8) h0_)),(30001,.row true 1 4 (rowsOf encB h1_))]⟩ : St))) = some r.st := by
 unfold f28_r_l1_j2 at hF
 obtain ⟨o1,h2,hF⟩ := bs hF
 have hc3 := f28_r_l1_l3_ok k k x0 x7 x8 0 h0_ h1_ _ h2
 simp (maxSteps:=999999) (disch:=first|exact D (by decide)|exact K (by kernel_rfl)) only [E,EE,↓reduceIte,simprocAttr,xk B28 [2,2,1,2,1,2,2,1,2,2,2,2] .sq rfl,rg B28 [1,2,2,1,2,1,2,2,1,2,2,2,2] 9 false rfl,hr_28_9,xk B28 [2,2,2,1,2,1,2,2,1,2,2,2,2] (.bk 2) rfl,xk B28 [2,2,2,2,1,2,1,2,2,1,2,2,2,2] .lp rfl,hh_28_10,hc_28_10]
 (try simp only [NM,EE] at hc3)
 rw [hc3 _ (by simp (maxSteps:=999999) (disch:=first|exact D (by decide)|exact K (by kernel_rfl)) only [E,EE,↓reduceIte,simprocAttr,hh_28_10,hc_28_10])]
 clear hc3
 cases o1 with
 | o0 v4 v5 v6 =>
  (try dsimp only at hF)
  cases hF
  simp (maxSteps:=999999) (disch:=first|exact D (by decide)|exact K (by kernel_rfl)) only [E,EE,↓reduceIte,simprocAttr,R28_r_l1_l3.st,R28_r_l1.st]
 | o1 _ _ _ _ _ _ =>
  (try dsimp only at hF)
  cases hF
 | o2 v7 v8 v9 v10 v11 v12 v13 =>
  (try dsimp only at hF)
  have hJ := f28_r_l1_j4_ok k v7 v8 v9 v10 v11 v12 v13 _ hF
  simp (maxSteps:=999999) (disch:=first|exact D (by decide)|exact K (by kernel_rfl)) only [E,EE,↓reduceIte,simprocAttr,R28_r_l1_l3.st]
  try simp only [NM,EE] at hJ
  exact hJ
noncomputable def f28_r_l1_j1 (k:Nat) (x0:List T39) (x7 x8:Int) (x24:Bool) (h0_:List Int) (h1_:List Bool) : Option R28_r_l1 :=
 ifE ((0:Int) ≤ x8) (
  Option.bind (x0[(Int.toNat x8)]?) fun v2 =>
   Option.bind (f13_ai10rz k v2.Source v2.Dest v2.Seq v2.Created v2.Lifetime v2.HopLimit v2.Hops v2.Priority v2.Offset v2.Total v2.Payload) fun o4 =>
    match o4 with
    | .o0 v7 =>
     cond ((!v7))
      (some (R28_r_l1.o0 [] 0 false))
      (
       Option.bind (x0[0]?) fun v9 =>
        Option.bind (f50_ai10rzai10rz k v9.Source v9.Dest v9.Seq v9.Created v9.Lifetime v9.HopLimit v9.Hops v9.Priority v9.Offset v9.Total v9.Payload v2.Source v2.Dest v2.Seq v2.Created v2.Lifetime v2.HopLimit v2.Hops v2.Priority v2.Offset v2.Total v2.Payload) fun o11 =>
         match o11 with
         | .o0 v14 =>
          cond ((!v14))
           (some (R28_r_l1.o0 [] 0 false))
           (f28_r_l1_j2 k x0 x7 x8 false h0_ h1_)))
theorem f28_r_l1_j1_ok (k:Nat) (x0:List T39) (x7 x8:Int) (x24:Bool) (h0_:List Int) (h1_:List Bool) (r:R28_r_l1) (hF:f28_r_l1_j1 k x0 x7 x8 x24 h0_ h1_ = some r) : EX 28 k (nav B28 [2,1,2,2,1,2,2,2,2]) (⟨103,[(0,.sl 11 (rowsOf encT39 x0)),(5,.own 30000),(6,.own 30001),(7,.p (.int .i64 x7)),(8,.p (.int .i64 x8)),(24,.p (.bool x24))],[(30000,.row true 1 5 (rowsOf (encI .u8) h0_)),(30001,.row true 1 4 (rowsOf encB h1_))]⟩ : St) = some r.st := by
 unfold f28_r_l1_j1 at hF
 obtain ⟨h1,hF⟩ := ifE_some.1 hF
 obtain ⟨v2,h3,hF⟩ := bs hF
 obtain ⟨o4,h5,hF⟩ := bs hF
 have hc6 := f13_ai10rz_ok k v2.Source v2.Dest v2.Seq v2.Created v2.Lifetime v2.HopLimit v2.Hops v2.Priority v2.Offset v2.Total v2.Payload _ h5
 cases o4 with
 | o0 v7 =>
  (try dsimp only at hF)
  (try simp only [NM,EE,R13_ai10rz.st] at hc6)
  simp (maxSteps:=999999) (disch:=first|exact D (by decide)|exact K (by kernel_rfl)) only [E,EE,↓reduceIte,simprocAttr,xk B28 [2,1,2,2,1,2,2,2,2] .sq rfl,xk B28 [1,2,1,2,2,1,2,2,2,2] (.bk 1) rfl,xk B28 [2,1,2,1,2,2,1,2,2,2,2] .sq rfl,xk B28 [1,2,1,2,1,2,2,1,2,2,2,2] .sq rfl,rg B28 [1,1,2,1,2,1,2,2,1,2,2,2,2] 7 true rfl,hr_28_7,indexAddrV,t_24,t_39,encT39_eq,callStep,CL,gv,List.contains,h1,h3,hc6]
  rcases cond_some hF with ⟨h8,hF⟩ | ⟨h8,hF⟩
  ·cases hF
   simp (maxSteps:=999999) (disch:=first|exact D (by decide)|exact K (by kernel_rfl)) only [E,EE,↓reduceIte,simprocAttr,xk B28 [2,1,2,1,2,1,2,2,1,2,2,2,2] (.cd 43) rfl,xk B28 [2,2,1,2,1,2,1,2,2,1,2,2,2,2] .sq rfl,rg B28 [1,2,2,1,2,1,2,1,2,2,1,2,2,2,2] 8 false rfl,hr_28_8,xk B28 [2,2,2,1,2,1,2,1,2,2,1,2,2,2,2] .rt rfl,R28_r_l1.st,h1,h3,hc6,h8]
  ·obtain ⟨v9,h10,hF⟩ := bs hF
   obtain ⟨o11,h12,hF⟩ := bs hF
   have hc13 := f50_ai10rzai10rz_ok k v9.Source v9.Dest v9.Seq v9.Created v9.Lifetime v9.HopLimit v9.Hops v9.Priority v9.Offset v9.Total v9.Payload v2.Source v2.Dest v2.Seq v2.Created v2.Lifetime v2.HopLimit v2.Hops v2.Priority v2.Offset v2.Total v2.Payload _ h12
   cases o11 with
   | o0 v14 =>
    (try dsimp only at hF)
    (try simp only [NM,EE,R50_ai10rzai10rz.st] at hc13)
    simp (maxSteps:=999999) (disch:=first|exact D (by decide)|exact K (by kernel_rfl)) only [E,EE,↓reduceIte,simprocAttr,indexAddrV,t_24,t_39,encT39_eq,callStep,CL,gv,List.contains,xk B28 [2,1,2,1,2,1,2,2,1,2,2,2,2] (.cd 43) rfl,h1,h3,hc6,h8,h10,hc13]
    rcases cond_some hF with ⟨h15,hF⟩ | ⟨h15,hF⟩
    ·cases hF
     simp (maxSteps:=999999) (disch:=first|exact D (by decide)|exact K (by kernel_rfl)) only [E,EE,↓reduceIte,simprocAttr,xk B28 [2,2,1,2,1,2,1,2,2,1,2,2,2,2] .sq rfl,rg B28 [1,2,2,1,2,1,2,1,2,2,1,2,2,2,2] 8 false rfl,hr_28_8,xk B28 [2,2,2,1,2,1,2,1,2,2,1,2,2,2,2] .rt rfl,R28_r_l1.st,h1,h3,hc6,h8,h10,hc13,h15]
    ·have hJ := f28_r_l1_j2_ok k x0 x7 x8 false h0_ h1_ _ hF
     simp (maxSteps:=999999) (disch:=first|exact D (by decide)|exact K (by kernel_rfl)) only [E,EE,↓reduceIte,simprocAttr,xk B28 [3,2,1,2,1,2,1,2,2,1,2,2,2,2] .sk rfl,h1,h3,hc6,h8,h10,hc13,h15]
     try simp only [NM,EE] at hJ
     exact hJ
noncomputable def f28_r_l1_b (k:Nat) (x0:List T39) (x7 x8:Int) (h0_:List Int) (h1_:List Bool) : Option R28_r_l1 :=
 cond ((decide (x8 < ((List.length x0) : Int))))
  (f28_r_l1_j1 k x0 x7 x8 true h0_ h1_)
  (some (R28_r_l1.o2 x0 x7 x8 false h0_ h1_))
theorem f28_r_l1_b_ok (k:Nat) (x0:List T39) (x7 x8:Int) (h0_:List Int) (h1_:List Bool) (r:R28_r_l1) (hF:f28_r_l1_b k x0 x7 x8 h0_ h1_ = some r) : EX 28 k (nav B28 [1,2,2,1,2,2,2,2]) (⟨103,[(0,.sl 11 (rowsOf encT39 x0)),(5,.own 30000),(6,.own 30001),(7,.p (.int .i64 x7)),(8,.p (.int .i64 x8))],[(30000,.row true 1 5 (rowsOf (encI .u8) h0_)),(30001,.row true 1 4 (rowsOf encB h1_))]⟩ : St) = some r.st := by
 unfold f28_r_l1_b at hF
 simp (maxSteps:=999999) (disch:=first|exact D (by decide)|exact K (by kernel_rfl)) only [E,EE,↓reduceIte,simprocAttr,xk B28 [1,2,2,1,2,2,2,2] .sq rfl,xk B28 [1,1,2,2,1,2,2,2,2] .sq rfl,rg B28 [1,1,1,2,2,1,2,2,2,2] 5 false rfl,hr_28_5,t_24,xk B28 [2,1,1,2,2,1,2,2,2,2] (.cd 24) rfl]
 rcases cond_some hF with ⟨h1,hF⟩ | ⟨h1,hF⟩
 ·have hJ := f28_r_l1_j1_ok k x0 x7 x8 true h0_ h1_ _ hF
  simp (maxSteps:=999999) (disch:=first|exact D (by decide)|exact K (by kernel_rfl)) only [E,EE,↓reduceIte,simprocAttr,xk B28 [2,2,1,1,2,2,1,2,2,2,2] .sk rfl,h1]
  try simp only [NM,EE] at hJ
  exact hJ
 ·cases hF
  simp (maxSteps:=999999) (disch:=first|exact D (by decide)|exact K (by kernel_rfl)) only [E,EE,↓reduceIte,simprocAttr,xk B28 [3,2,1,1,2,2,1,2,2,2,2] (.ex 0) rfl,R28_r_l1.st,h1]
noncomputable def f28_r_l1 (k:Nat) : Nat → (List T39) → Int → Int → (List Int) → (List Bool) → Option R28_r_l1
 | 0,_,_,_,_,_ => none
 | n + 1,x0,x7,x8,h0_,h1_ => Option.bind (f28_r_l1_b k x0 x7 x8 h0_ h1_) fun o =>
  match o with
  | .o0 y y_1 y_2 => some (.o0 y y_1 y_2)
  | .o1 y y_1 y_2 y_3 y_4 => f28_r_l1 k n y y_1 y_2 y_3 y_4
  | .o2 y y_1 y_2 y_3 y_4 y_5 => some (.o2 y y_1 y_2 y_3 y_4 y_5)
theorem f28_r_l1_ok (k n:Nat) : ∀ (x0:List T39) (x7 x8:Int) (h0_:List Int) (h1_:List Bool) (r:R28_r_l1) (hF:f28_r_l1 k n x0 x7 x8 h0_ h1_ = some r) (σ:St) (hσ:headR (hints.head 28 5) (hints.canon 28 5) σ = some (⟨103,[(0,.sl 11 (rowsOf encT39 x0)),(5,.own 30000),(6,.own 30001),(7,.p (.int .i64 x7)),(8,.p (.int .i64 x8))],[(30000,.row true 1 5 (rowsOf (encI .u8) h0_)),(30001,.row true 1 4 (rowsOf encB h1_))]⟩ : St)),LP 28 k (nav B28 [1,2,2,1,2,2,2,2]) n σ = some r.st := by
 induction n with
 | zero => intro x0 x7 x8 h0_ h1_ r hF; cases hF
 | succ n ih =>
  intro x0 x7 x8 h0_ h1_ r hF σ hσ
  rw [f28_r_l1] at hF
  obtain ⟨o,h,hF⟩ := Option.bind_eq_some_iff.1 hF
  have hB := f28_r_l1_b_ok k x0 x7 x8 h0_ h1_ o h
  unfold LP at ih ⊢
  unfold EX at hB
  rw [loopK_succ,show firstReg (nav B28 [1,2,2,1,2,2,2,2]) = 5 from rfl,hσ,headK_some,hB]
  cases o with
  | o0 y y_1 y_2 => cases hF; rfl
  | o1 y y_1 y_2 y_3 y_4 =>
   refine ih y y_1 y_2 y_3 y_4 r hF _ ?_
   simp (maxSteps:=999999) (disch:=first|exact D (by decide)|exact K (by kernel_rfl)) only [E,EE,↓reduceIte,simprocAttr,hh_28_5,hc_28_5]
  | o2 y y_1 y_2 y_3 y_4 y_5 => cases hF; rfl
noncomputable def f28_r_j2 (k:Nat) (x0:List T39) (x7 x8:Int) (x24:Bool) (h0_:List Int) (h1_:List Bool) : Option R28_r :=
 some (R28_r.o1 x7 true h0_)
theorem f28_r_j2_ok (k:Nat) (x0:List T39) (x7 x8:Int) (x24:Bool) (h0_:List Int) (h1_:List Bool) (r:R28_r) (hF:f28_r_j2 k x0 x7 x8 x24 h0_ h1_ = some r) : finK Try.prog Try.f28 0 (EX 28 k (nav B28 [2,2,2,2,2]) (⟨103,[(0,.sl 11 (rowsOf encT39 x0)),(5,.own 30000),(6,.own 30001),(7,.p (.int .i64 x7)),(8,.p (.int .i64 x8)),(24,.p (.bool x24))],[(30000,.row true 1 5 (rowsOf (encI .u8) h0_)),(30001,.row true 1 4 (rowsOf encB h1_))]⟩ : St)) = some r.st := by
 unfold f28_r_j2 at hF
 cases hF
 simp (maxSteps:=999999) (disch:=first|exact D (by decide)|exact K (by kernel_rfl)) only [E,EE,↓reduceIte,simprocAttr,xk B28 [2,2,2,2,2] .sq rfl,rg B28 [1,2,2,2,2,2] 19 false rfl,hr_28_19,xk B28 [2,2,2,2,2,2] .rt rfl,finK_norm,finK_ret,fin28,R28_r.st]
noncomputable def f28_r_e (k:Nat) (a0:List T39) : Option R28_r :=
 Option.bind (a0[0]?) fun v1 =>
  ifE ((0:Int) ≤ v1.Total) (
   ifE (v1.Total ≤ v1.Total) (
    ifE ((v1.Total : Int) * 1 ≤ (roomy:Int)) (
     Option.bind (f28_r_l1 k k a0 0 0 ((List.replicate (Int.toNat v1.Total) (0:Int))) ((List.replicate (Int.toNat v1.Total) (false:Bool)))) fun o8 =>
      match o8 with
      | .o0 v11 v12 v13 =>
       some (R28_r.o0 v11 v12 v13)
      | .o1 _ _ _ _ _ =>
       none
      | .o2 v14 v15 v16 v17 v18 v19 =>
       f28_r_j2 k v14 v15 v16 v17 v18 v19)))
theorem f28_r_e_ok (k:Nat) (a0:List T39) (r:R28_r) (hF:f28_r_e k a0 = some r) : finK Try.prog Try.f28 0 (EX 28 k (nav B28 []) (⟨103,[(0,.sl 11 (rowsOf encT39 a0))],[]⟩ : St)) = some r.st := by
 unfold f28_r_e at hF
 obtain ⟨v1,h2,hF⟩ := bs hF
 obtain ⟨h3,hF⟩ := ifE_some.1 hF
 obtain ⟨h4,hF⟩ := ifE_some.1 hF
 obtain ⟨h5,hF⟩ := ifE_some.1 hF
 have q6 : List.replicate (Int.toNat v1.Total) [.p (.int .u8 0)] = rowsOf (encI .u8) (List.replicate (Int.toNat v1.Total) (0:Int)) := (rowsOf_replicate (enc := (encI .u8)) (n := (Int.toNat v1.Total)) (x := (0:Int))).symm
 have q7 : List.replicate (Int.toNat v1.Total) [.p (.bool false)] = rowsOf encB (List.replicate (Int.toNat v1.Total) (false:Bool)) := (rowsOf_replicate (enc := encB) (n := (Int.toNat v1.Total)) (x := (false:Bool))).symm
 obtain ⟨o8,h9,hF⟩ := bs hF
 have hc10 := f28_r_l1_ok k k a0 0 0 ((List.replicate (Int.toNat v1.Total) (0:Int))) ((List.replicate (Int.toNat v1.Total) (false:Bool))) _ h9
 simp (maxSteps:=999999) (disch:=first|exact D (by decide)|exact K (by kernel_rfl)) only [E,EE,↓reduceIte,simprocAttr,xk B28 [] .sq rfl,rg B28 [1] 0 false rfl,hr_28_0,xk B28 [2] .sq rfl,rg B28 [1,2] 1 false rfl,hr_28_1,indexAddrV,t_24,t_39,encT39_eq,fieldAddrV,t_3,makeV,intArg,sm_5,t_29,t_5,xk B28 [2,2] .sq rfl,rg B28 [1,2,2] 2 false rfl,hr_28_2,sm_4,t_90,t_4,xk B28 [2,2,2] .sq rfl,rg B28 [1,2,2,2] 3 false rfl,hr_28_3,xk B28 [2,2,2,2] .sq rfl,xk B28 [1,2,2,2,2] .sq rfl,rg B28 [1,1,2,2,2,2] 4 false rfl,hr_28_4,xk B28 [2,1,2,2,2,2] (.bk 0) rfl,xk B28 [2,2,1,2,2,2,2] .lp rfl,hh_28_5,hc_28_5,h2,h3,h4,h5,q6,q7]
 (try simp only [NM,EE] at hc10)
 rw [hc10 _ (by simp (maxSteps:=999999) (disch:=first|exact D (by decide)|exact K (by kernel_rfl)) only [E,EE,↓reduceIte,simprocAttr,hh_28_5,hc_28_5,h2,h3,h4,h5,q6,q7])]
 clear hc10
 cases o8 with
 | o0 v11 v12 v13 =>
  (try dsimp only at hF)
  cases hF
  simp (maxSteps:=999999) (disch:=first|exact D (by decide)|exact K (by kernel_rfl)) only [E,EE,↓reduceIte,simprocAttr,R28_r_l1.st,finK_norm,finK_ret,fin28,R28_r.st,h2,h3,h4,h5,q6,q7]
 | o1 _ _ _ _ _ =>
  (try dsimp only at hF)
  cases hF
 | o2 v14 v15 v16 v17 v18 v19 =>
  (try dsimp only at hF)
  have hJ := f28_r_j2_ok k v14 v15 v16 v17 v18 v19 _ hF
  simp (maxSteps:=999999) (disch:=first|exact D (by decide)|exact K (by kernel_rfl)) only [E,EE,↓reduceIte,simprocAttr,R28_r_l1.st,h2,h3,h4,h5,q6,q7]
  try simp only [NM,EE] at hJ
  exact hJ
noncomputable def f28_r (k:Nat) (a0:List T39) : Option R28_r := match k with | 0 => none | k + 1 => f28_r_e k a0
theorem f28_r_ok (k:Nat) (a0:List T39) (r:R28_r) (hF:f28_r k a0 = some r) : CV k 28 [.sl 11 (rowsOf encT39 a0)] [] = some r.st := by
 cases k with
 | zero => cases hF
 | succ k =>
  unfold CV
  rw [ev_call (F := Try.f28) (c := (nav B28 [])) rfl Try.func28 rfl rfl rfl rfl]
  exact f28_r_e_ok k a0 r hF
end Go.Proofs.YticggdfaehneeaaV