/- What the program's functions answer: plain functions,and that the interpreter answers what they do. Written by a program of this session,out of the translation. -/
import Derived.Test.YtbnnmplkbpgcaaaDoorVP4
namespace Go.Proofs.YtbnnmplkbpgcaaaDoorV
open Go
set_option linter.unusedVariables false
set_option linter.unusedSimpArgs false
set_option maxRecDepth 8000
set_option maxHeartbeats 4000000
-- f69: f69 heliograph/sum.sum[uint32]
inductive R69 where
 | o0 (y:Int)
noncomputable def R69.st:R69→V×List O×List O
 | .o0 y=>((jU y),[],[])
inductive R69_l1_l2 where
 | o0 (y a:Int) (b:List Int) (c d e:Int)
 | o1 (y a:Int) (b:List Int) (c d e:Int) (f:Bool)
noncomputable def R69_l1_l2.st:R69_l1_l2→Out×St
 | .o0 y a b c d e=>(.norm,(⟨36,[(1,jU y),(5,jU a),(11,jB b),(12,jI c),(13,jI d),(21,jI e)],[]⟩:St))
 | .o1 y a b c d e f=>(.exit 2,(⟨36,[(1,jU y),(5,jU a),(11,jB b),(12,jI c),(13,jI d),(21,jI e),(22,jT f)],[]⟩:St))
noncomputable def f69_l1_l2_j2 (k:Nat) (e f:Int) (a:List Int) (b c d:Int):Option R69_l1_l2 :=
 some (R69_l1_l2.o0 e f a b c (IntKind.i64.wrap (d+(1:Int))))
theorem f69_l1_l2_j2_ok (k e f a b c d r) (g:f69_l1_l2_j2 k e f a b c d=some r):EX 69 k (nav B69 [2,2,2,1,2,2,2,2,2,1,2,2,1,2,2,1,2,2]) (⟨36,[(1,jU e),(5,jU f),(11,jB a),(12,jI b),(13,jI c),(21,jI d)],[]⟩:St)=some r.st:=by
 unfold f69_l1_l2_j2 at g
 cases g
 simp (disch:=first|apply D;decide|apply K;kernel_rfl) only [W,simprocAttr,rg B69 [2,2,2,1,2,2,2,2,2,1,2,2,1,2,2,1,2,2] 12 false rfl,hr 69 12 rfl,R69_l1_l2.st]
noncomputable def f69_l1_l2_j3 (k:Nat) (e f:Int) (a:List Int) (b c d:Int) (g:Bool):Option R69_l1_l2 :=
 some (R69_l1_l2.o0 e f a b c (IntKind.i64.wrap (d+(1:Int))))
theorem f69_l1_l2_j3_ok (k f g a b c d e r) (h:f69_l1_l2_j3 k f g a b c d e=some r):EX 69 k (nav B69 [2,2,2,1,2,2,2,2,2,1,2,2,1,2,2,1,2,2]) (⟨36,[(1,jU f),(5,jU g),(11,jB a),(12,jI b),(13,jI c),(21,jI d),(28,jT e)],[]⟩:St)=some r.st:=by
 unfold f69_l1_l2_j3 at h
 cases h
 simp (disch:=first|apply D;decide|apply K;kernel_rfl) only [W,simprocAttr,rg B69 [2,2,2,1,2,2,2,2,2,1,2,2,1,2,2,1,2,2] 12 false rfl,hr 69 12 rfl,R69_l1_l2.st]
noncomputable def f69_l1_l2_j1 (k:Nat) (e f:Int) (a:List Int) (b c d:Int) (g:Bool):Option R69_l1_l2 :=
 cond (((IntKind.u32.wrap ((BitVec.ofInt (IntKind.bits .u32) f &&& BitVec.ofInt (IntKind.bits .u32) (1:Int)).toNat:Nat))==1))
  (f69_l1_l2_j2 k e ((IntKind.u32.wrap ((BitVec.ofInt (IntKind.bits .u32) (Int.fdiv f (2 ^ (min 1 (IntKind.bits .u32)))) ^^^ BitVec.ofInt (IntKind.bits .u32) e).toNat:Nat))) a b c d)
  (f69_l1_l2_j3 k e (Int.fdiv f (2 ^ (min 1 (IntKind.bits .u32)))) a b c d false)
theorem f69_l1_l2_j1_ok (k f h a b c d g r) (e:f69_l1_l2_j1 k f h a b c d g=some r):EX 69 k (nav B69 [2,2,1,2,2,2,2,2,1,2,2,1,2,2,1,2,2]) (⟨36,[(1,jU f),(5,jU h),(11,jB a),(12,jI b),(13,jI c),(21,jI d),(22,jT g)],[]⟩:St)=some r.st:=by
 unfold f69_l1_l2_j1 at e
 simp (disch:=first|apply D;decide|apply K;kernel_rfl) only [W,simprocAttr,xk B69 [2,2,1,2,2,2,2,2,1,2,2,1,2,2,1,2,2] .sq rfl,xk B69 [1,2,2,1,2,2,2,2,2,1,2,2,1,2,2,1,2,2] (.bk 3) rfl,xk B69 [2,1,2,2,1,2,2,2,2,2,1,2,2,1,2,2,1,2,2] .sq rfl,rg B69 [1,2,1,2,2,1,2,2,2,2,2,1,2,2,1,2,2,1,2,2] 8 false rfl,hr 69 8 rfl,xk B69 [2,2,1,2,2,1,2,2,2,2,2,1,2,2,1,2,2,1,2,2] .sq rfl,rg B69 [1,2,2,1,2,2,1,2,2,2,2,2,1,2,2,1,2,2,1,2,2] 9 false rfl,hr 69 9 rfl,shiftV,xk B69 [2,2,2,1,2,2,1,2,2,2,2,2,1,2,2,1,2,2,1,2,2] .sq rfl,rg B69 [1,2,2,2,1,2,2,1,2,2,2,2,2,1,2,2,1,2,2,1,2,2] 10 false rfl,hr 69 10 rfl,xk B69 [2,2,2,2,1,2,2,1,2,2,2,2,2,1,2,2,1,2,2,1,2,2] (.cd 28) rfl]
 rcases cond_some e with ⟨i,e⟩ | ⟨i,e⟩
 ·have hJ:=f69_l1_l2_j2_ok k f ((IntKind.u32.wrap ((BitVec.ofInt (IntKind.bits .u32) (Int.fdiv h (2 ^ (min 1 (IntKind.bits .u32)))) ^^^ BitVec.ofInt (IntKind.bits .u32) f).toNat:Nat))) a b c d _ e
  simp (disch:=first|apply D;decide|apply K;kernel_rfl) only [W,simprocAttr,rg B69 [2,2,2,2,2,1,2,2,1,2,2,2,2,2,1,2,2,1,2,2,1,2,2] 11 false rfl,hr 69 11 rfl,i]
  try simp only [NM,EE] at hJ
  exact hJ
 ·have hJ:=f69_l1_l2_j3_ok k f (Int.fdiv h (2 ^ (min 1 (IntKind.bits .u32)))) a b c d false _ e
  simp (disch:=first|apply D;decide|apply K;kernel_rfl) only [W,simprocAttr,xk B69 [3,2,2,2,2,1,2,2,1,2,2,2,2,2,1,2,2,1,2,2,1,2,2] .sk rfl,i]
  try simp only [NM,EE] at hJ
  exact hJ
noncomputable def f69_l1_l2_b (k:Nat) (e f:Int) (b:List Int) (c d a:Int):Option R69_l1_l2 :=
 cond ((decide (a<8)))
  (f69_l1_l2_j1 k e f b c d a true)
  (some (R69_l1_l2.o1 e f b c d a false))
theorem f69_l1_l2_b_ok (k f g a b c d r) (e:f69_l1_l2_b k f g a b c d=some r):EX 69 k (nav B69 [1,2,2,2,2,2,1,2,2,1,2,2,1,2,2]) (⟨36,[(1,jU f),(5,jU g),(11,jB a),(12,jI b),(13,jI c),(21,jI d)],[]⟩:St)=some r.st:=by
 unfold f69_l1_l2_b at e
 simp (disch:=first|apply D;decide|apply K;kernel_rfl) only [W,simprocAttr,xk B69 [1,2,2,2,2,2,1,2,2,1,2,2,1,2,2] .sq rfl,rg B69 [1,1,2,2,2,2,2,1,2,2,1,2,2,1,2,2] 7 false rfl,hr 69 7 rfl,xk B69 [2,1,2,2,2,2,2,1,2,2,1,2,2,1,2,2] .sq rfl,xk B69 [1,2,1,2,2,2,2,2,1,2,2,1,2,2,1,2,2] (.cd 22) rfl]
 rcases cond_some e with ⟨h,e⟩ | ⟨h,e⟩
 ·have hJ:=f69_l1_l2_j1_ok k f g a b c d true _ e
  simp (disch:=first|apply D;decide|apply K;kernel_rfl) only [W,simprocAttr,xk B69 [2,1,2,1,2,2,2,2,2,1,2,2,1,2,2,1,2,2] .sk rfl,h]
  try simp only [NM,EE] at hJ
  exact hJ
 ·cases e
  simp (disch:=first|apply D;decide|apply K;kernel_rfl) only [W,simprocAttr,xk B69 [3,1,2,1,2,2,2,2,2,1,2,2,1,2,2,1,2,2] (.ex 2) rfl,R69_l1_l2.st,h]
noncomputable def f69_l1_l2 (k:Nat):Nat→Int→Int→(List Int)→Int→Int→Int→Option R69_l1_l2
 | 0,_,_,_,_,_,_=>none
 | n+1,l,m,f,g,h,i=>Option.bind (f69_l1_l2_b k l m f g h i) fun o =>
  match o with
  | .o0 y a b c d e=>f69_l1_l2 k n y a b c d e
  | .o1 y a b c d e j=>some (.o1 y a b c d e j)
theorem f69_l1_l2_ok (k n:Nat):∀ (f g:Int) (a:List Int) (b c d:Int) (r:R69_l1_l2) (e:f69_l1_l2 k n f g a b c d=some r) (σ:St) (hσ:headR (hints.head 69 7) (hints.canon 69 7) σ=some (⟨36,[(1,jU f),(5,jU g),(11,jB a),(12,jI b),(13,jI c),(21,jI d)],[]⟩:St)),LP 69 k (nav B69 [1,2,2,2,2,2,1,2,2,1,2,2,1,2,2]) n σ=some r.st:=by
 induction n with
 | zero=>intro f g a b c d r e;cases e
 | succ n q =>
  intro f g a b c d r e σ hσ
  rw [f69_l1_l2] at e
  obtain ⟨o,h,e⟩:=Option.bind_eq_some_iff.1 e
  have hB:=f69_l1_l2_b_ok k f g a b c d o h
  unfold LP at q ⊢
  unfold EX at hB
  rw [loopK_succ,show firstReg (nav B69 [1,2,2,2,2,2,1,2,2,1,2,2,1,2,2])=7 from rfl,hσ,headK_some,hB]
  cases o with
  | o0 y i j l m p =>
   refine q y i j l m p r e _ ?_
   simp (disch:=first|apply D;decide|apply K;kernel_rfl) only [W,simprocAttr,hh_69_7,hc_69_7]
  | o1 y i j l m p s=>cases e;rfl
inductive R69_l1 where
 | o0 (y a:Int) (b:List Int) (c d:Int)
 | o1 (y a:Int) (b:List Int) (c d:Int) (e:Bool)
noncomputable def R69_l1.st:R69_l1→Out×St
 | .o0 y a b c d=>(.norm,(⟨36,[(1,jU y),(5,jU a),(11,jB b),(12,jI c),(13,jI d)],[]⟩:St))
 | .o1 y a b c d e=>(.exit 0,(⟨36,[(1,jU y),(5,jU a),(11,jB b),(12,jI c),(13,jI d),(14,jT e)],[]⟩:St))
noncomputable def f69_l1_j3 (k:Nat) (d e:Int) (a:List Int) (b c f:Int) (g:Bool):Option R69_l1 :=
 some (.o0 d e a b (IntKind.i64.wrap (c+(1:Int))))
theorem f69_l1_j3_ok (k f g a b c d e r) (h:f69_l1_j3 k f g a b c d e=some r):EX 69 k (nav B69 [2,2,2,1,2,2,1,2,2]) (⟨36,[(1,jU f),(5,jU g),(11,jB a),(12,jI b),(13,jI c),(21,jI d),(22,jT e)],[]⟩:St)=some r.st:=by
 unfold f69_l1_j3 at h
 cases h
 simp (disch:=first|apply D;decide|apply K;kernel_rfl) only [W,simprocAttr,rg B69 [2,2,2,1,2,2,1,2,2] 13 false rfl,hr 69 13 rfl,R69_l1.st]
noncomputable def f69_l1_j1 (k:Nat) (h i:Int) (b:List Int) (c a:Int) (j:Bool):Option R69_l1 :=
 ifE ((0:Int)≤a) (
  Option.bind (b[(Int.toNat a)]?) fun l =>
   Option.bind (f69_l1_l2 k k h ((IntKind.u32.wrap ((BitVec.ofInt (IntKind.bits .u32) i ^^^ BitVec.ofInt (IntKind.bits .u32) (IntKind.u32.wrap l)).toNat:Nat))) b c a 0) fun o4 =>
    match o4 with
    | .o0 _ _ _ _ _ _ =>
     none
    | .o1 m o p d e f g =>
     f69_l1_j3 k m o p d e f g)
theorem f69_l1_j1_ok (k g h b c d f r) (a:f69_l1_j1 k g h b c d f=some r):EX 69 k (nav B69 [2,2,1,2,2,1,2,2]) (⟨36,[(1,jU g),(5,jU h),(11,jB b),(12,jI c),(13,jI d),(14,jT f)],[]⟩:St)=some r.st:=by
 unfold f69_l1_j1 at a
 obtain ⟨i,a⟩:=ifE_some.1 a
 obtain ⟨q,j,a⟩:=bs a
 obtain ⟨o4,s,a⟩:=bs a
 have e:=f69_l1_l2_ok k k g ((IntKind.u32.wrap ((BitVec.ofInt (IntKind.bits .u32) h ^^^ BitVec.ofInt (IntKind.bits .u32) (IntKind.u32.wrap q)).toNat:Nat))) b c d 0 _ s
 simp (disch:=first|apply D;decide|apply K;kernel_rfl) only [W,simprocAttr,xk B69 [2,2,1,2,2,1,2,2] .sq rfl,xk B69 [1,2,2,1,2,2,1,2,2] (.bk 1) rfl,xk B69 [2,1,2,2,1,2,2,1,2,2] .sq rfl,rg B69 [1,2,1,2,2,1,2,2,1,2,2] 4 false rfl,hr 69 4 rfl,indexAddrV,t_22,t_5,encI_eq,xk B69 [2,2,1,2,2,1,2,2,1,2,2] .sq rfl,rg B69 [1,2,2,1,2,2,1,2,2,1,2,2] 5 false rfl,hr 69 5 rfl,t_24,convV,xk B69 [2,2,2,1,2,2,1,2,2,1,2,2] .sq rfl,rg B69 [1,2,2,2,1,2,2,1,2,2,1,2,2] 6 false rfl,hr 69 6 rfl,xk B69 [2,2,2,2,1,2,2,1,2,2,1,2,2] (.bk 2) rfl,xk B69 [2,2,2,2,2,1,2,2,1,2,2,1,2,2] .lp rfl,hh_69_7,hc_69_7,i,j]
 (try simp only [NM,EE] at e)
 rw [e _ (by simp (disch:=first|apply D;decide|apply K;kernel_rfl) only [W,simprocAttr,hh_69_7,hc_69_7,i,j])]
 clear e
 cases o4 with
 | o0 _ _ _ _ _ _ =>
  (try dsimp only at a)
  cases a
 | o1 t u v l m o p =>
  (try dsimp only at a)
  have hJ:=f69_l1_j3_ok k t u v l m o p _ a
  simp (disch:=first|apply D;decide|apply K;kernel_rfl) only [W,simprocAttr,R69_l1_l2.st,i,j]
  try simp only [NM,EE] at hJ
  exact hJ
noncomputable def f69_l1_b (k:Nat) (d e:Int) (c:List Int) (a b:Int):Option R69_l1 :=
 cond ((decide (b<a)))
  (f69_l1_j1 k d e c a b true)
  (some (.o1 d e c a b false))
theorem f69_l1_b_ok (k e f a b c r) (d:f69_l1_b k e f a b c=some r):EX 69 k (nav B69 [1,2,2,1,2,2]) (⟨36,[(1,jU e),(5,jU f),(11,jB a),(12,jI b),(13,jI c)],[]⟩:St)=some r.st:=by
 unfold f69_l1_b at d
 simp (disch:=first|apply D;decide|apply K;kernel_rfl) only [W,simprocAttr,xk B69 [1,2,2,1,2,2] .sq rfl,rg B69 [1,1,2,2,1,2,2] 3 false rfl,hr 69 3 rfl,xk B69 [2,1,2,2,1,2,2] .sq rfl,xk B69 [1,2,1,2,2,1,2,2] (.cd 14) rfl]
 rcases cond_some d with ⟨g,d⟩ | ⟨g,d⟩
 ·have hJ:=f69_l1_j1_ok k e f a b c true _ d
  simp (disch:=first|apply D;decide|apply K;kernel_rfl) only [W,simprocAttr,xk B69 [2,1,2,1,2,2,1,2,2] .sk rfl,g]
  try simp only [NM,EE] at hJ
  exact hJ
 ·cases d
  simp (disch:=first|apply D;decide|apply K;kernel_rfl) only [W,simprocAttr,xk B69 [3,1,2,1,2,2,1,2,2] (.ex 0) rfl,R69_l1.st,g]
noncomputable def f69_l1 (k:Nat):Nat→Int→Int→(List Int)→Int→Int→Option R69_l1
 | 0,_,_,_,_,_=>none
 | n+1,i,j,e,f,g=>Option.bind (f69_l1_b k i j e f g) fun o =>
  match o with
  | .o0 y a b c d=>f69_l1 k n y a b c d
  | .o1 y a b c d h=>some (.o1 y a b c d h)
theorem f69_l1_ok (k n:Nat):∀ (e f:Int) (a:List Int) (b c:Int) (r:R69_l1) (d:f69_l1 k n e f a b c=some r) (σ:St) (hσ:headR (hints.head 69 3) (hints.canon 69 3) σ=some (⟨36,[(1,jU e),(5,jU f),(11,jB a),(12,jI b),(13,jI c)],[]⟩:St)),LP 69 k (nav B69 [1,2,2,1,2,2]) n σ=some r.st:=by
 induction n with
 | zero=>intro e f a b c r d;cases d
 | succ n m =>
  intro e f a b c r d σ hσ
  rw [f69_l1] at d
  obtain ⟨o,h,d⟩:=Option.bind_eq_some_iff.1 d
  have hB:=f69_l1_b_ok k e f a b c o h
  unfold LP at m ⊢
  unfold EX at hB
  rw [loopK_succ,show firstReg (nav B69 [1,2,2,1,2,2])=3 from rfl,hσ,headK_some,hB]
  cases o with
  | o0 y g i j l =>
   refine m y g i j l r d _ ?_
   simp (disch:=first|apply D;decide|apply K;kernel_rfl) only [W,simprocAttr,hh_69_3,hc_69_3]
  | o1 y g i j l p=>cases d;rfl
noncomputable def f69_j2 (k:Nat) (f a:Int) (b:List Int) (c d:Int) (e:Bool):Option R69 :=
 some (.o0 (flipI .u32 a))
theorem f69_j2_ok (k e f a b c d r) (g:f69_j2 k e f a b c d=some r):finK Tryd.prog Tryd.f69 0 (EX 69 k (nav B69 [2,2,2]) (⟨36,[(1,jU e),(5,jU f),(11,jB a),(12,jI b),(13,jI c),(14,jT d)],[]⟩:St))=some r.st:=by
 unfold f69_j2 at g
 cases g
 simp (disch:=first|apply D;decide|apply K;kernel_rfl) only [W,simprocAttr,xk B69 [2,2,2] .sq rfl,rg B69 [1,2,2,2] 14 false rfl,hr 69 14 rfl,xk B69 [2,2,2,2] .rt rfl,fin69,R69.st]
noncomputable def f69_e (k:Nat) (a:List Int) (b:Int):Option R69 :=
 Option.bind (f69_l1 k k b (flipI .u32 (IntKind.u32.wrap 0)) a ((List.length a):Int) 0) fun o1 =>
  match o1 with
  | .o0 _ _ _ _ _ =>
   none
  | .o1 c d e f g h =>
   f69_j2 k c d e f g h
theorem f69_e_ok (k c d r) (a:f69_e k c d=some r):finK Tryd.prog Tryd.f69 0 (EX 69 k (nav B69 []) (⟨36,[(0,jB c),(1,jU d)],[]⟩:St))=some r.st:=by
 unfold f69_e at a
 obtain ⟨o1,e,a⟩:=bs a
 have b:=f69_l1_ok k k d (flipI .u32 (IntKind.u32.wrap 0)) c ((List.length c):Int) 0 _ e
 simp (disch:=first|apply D;decide|apply K;kernel_rfl) only [W,simprocAttr,xk B69 [] .sq rfl,rg B69 [1] 0 false rfl,hr 69 0 rfl,xk B69 [2] .sq rfl,rg B69 [1,2] 1 false rfl,hr 69 1 rfl,t_3,t_24,convV,xk B69 [2,2] .sq rfl,xk B69 [1,2,2] .sq rfl,rg B69 [1,1,2,2] 2 false rfl,hr 69 2 rfl,t_22,xk B69 [2,1,2,2] (.bk 0) rfl,xk B69 [2,2,1,2,2] .lp rfl,hh_69_3,hc_69_3]
 (try simp only [NM,EE] at b)
 rw [b _ (by simp (disch:=first|apply D;decide|apply K;kernel_rfl) only [W,simprocAttr,hh_69_3,hc_69_3])]
 clear b
 cases o1 with
 | o0 _ _ _ _ _ =>
  (try dsimp only at a)
  cases a
 | o1 f g h i j l =>
  (try dsimp only at a)
  have hJ:=f69_j2_ok k f g h i j l _ a
  simp (disch:=first|apply D;decide|apply K;kernel_rfl) only [W,simprocAttr,R69_l1.st]
  try simp only [NM,EE] at hJ
  exact hJ
noncomputable def f69 (k:Nat) (a:List Int) (b:Int):Option R69:=match k with | 0=>none | k+1=>f69_e k a b
theorem f69_ok (k a b r) (d:f69 k a b=some r):CV k 69 [jB a,jU b] []=some r.st:=by
 cases k with
 | zero=>cases d
 | succ k =>
  unfold CV
  rw [ev_call (F:=Tryd.f69) (c:=(nav B69 [])) rfl Tryd.func69 rfl rfl rfl rfl]
  exact f69_e_ok k a b r d
-- f56: f56 heliograph/sum.Sum32
inductive R56 where
 | o0 (y:Int)
noncomputable def R56.st:R56→V×List O×List O
 | .o0 y=>((jU y),[],[])
noncomputable def f56_e (k:Nat) (a:List Int):Option R56 :=
 Option.bind (f69 k a 2197175160) fun o1 =>
  match o1 with
  | .o0 b =>
   some (.o0 b)
theorem f56_e_ok (k c r) (a:f56_e k c=some r):finK Tryd.prog Tryd.f56 0 (EX 56 k (nav B56 []) (⟨5,[(0,jB c)],[]⟩:St))=some r.st:=by
 unfold f56_e at a
 obtain ⟨o1,d,a⟩:=bs a
 have b:=f69_ok k c 2197175160 _ d
 cases o1 with
 | o0 e =>
  (try dsimp only at a)
  (try simp only [NM,EE,R69.st] at b)
  cases a
  simp (disch:=first|apply D;decide|apply K;kernel_rfl) only [W,simprocAttr,xk B56 [] .sq rfl,rg B56 [1] 0 false rfl,hr 56 0 rfl,xk B56 [2] .sq rfl,rg B56 [1,2] 1 false rfl,hr 56 1 rfl,callStep,CL,gv,List.contains,xk B56 [2,2] .rt rfl,fin56,R56.st,b]
noncomputable def f56 (k:Nat) (a:List Int):Option R56:=match k with | 0=>none | k+1=>f56_e k a
theorem f56_ok (k a r) (b:f56 k a=some r):CV k 56 [jB a] []=some r.st:=by
 cases k with
 | zero=>cases b
 | succ k =>
  unfold CV
  rw [ev_call (F:=Tryd.f56) (c:=(nav B56 [])) rfl Tryd.func56 rfl rfl rfl rfl]
  exact f56_e_ok k a r b
-- f37: f37 heliograph/sum.Seal32
inductive R37 where
 | o0 (y:List Int)
noncomputable def R37.st:R37→V×List O×List O
 | .o0 y=>(.own 2000000,[],[.row true 1 5 (rowsOf (encI .u8) y)])
noncomputable def f37_e (k:Nat) (a:List Int):Option R37 :=
 Option.bind (f56 k a) fun o1 =>
  match o1 with
  | .o0 b =>
   Option.bind (f54 k a b 4) fun o5 =>
    match o5 with
    | .o0 c =>
     some (.o0 c)
theorem f37_e_ok (k d r) (a:f37_e k d=some r):finK Tryd.prog Tryd.f37 0 (EX 37 k (nav B37 []) (⟨7,[(0,jB d)],[]⟩:St))=some r.st:=by
 unfold f37_e at a
 obtain ⟨o1,e,a⟩:=bs a
 have b:=f56_ok k d _ e
 cases o1 with
 | o0 f =>
  (try dsimp only at a)
  (try simp only [NM,EE,R56.st] at b)
  obtain ⟨o5,g,a⟩:=bs a
  have c:=f54_ok k d f 4 _ g
  cases o5 with
  | o0 h =>
   (try dsimp only at a)
   (try simp only [NM,EE,R54.st] at c)
   cases a
   simp (disch:=first|apply D;decide|apply K;kernel_rfl) only [W,simprocAttr,xk B37 [] .sq rfl,rg B37 [1] 0 false rfl,hr 37 0 rfl,xk B37 [2] .sq rfl,rg B37 [1,2] 1 false rfl,hr 37 1 rfl,callStep,CL,gv,List.contains,xk B37 [2,2] .rt rfl,fin37,R37.st,b,c]
noncomputable def f37 (k:Nat) (a:List Int):Option R37:=match k with | 0=>none | k+1=>f37_e k a
theorem f37_ok (k a r) (b:f37 k a=some r):CV k 37 [jB a] []=some r.st:=by
 cases k with
 | zero=>cases b
 | succ k =>
  unfold CV
  rw [ev_call (F:=Tryd.f37) (c:=(nav B37 [])) rfl Tryd.func37 rfl rfl rfl rfl]
  exact f37_e_ok k a r b
-- f47b: f47 heliograph/sum.open
inductive R47b where
 | o0 (y:List Int) (a:Int)
noncomputable def R47b.st:R47b→V×List O×List O
 | .o0 y a=>(V.tup [jB y,jI a],[],[])
noncomputable def f47b_j2 (k:Nat) (b:List Int) (a:Int) (c:Bool):Option R47b :=
 ifE ((0:Int)≤a) (
  ifE ((Int.toNat a)≤(List.length b)) (
   Option.bind (f53 k (List.take (Int.toNat a) b)) fun o3 =>
    match o3 with
    | .o0 d =>
     some (.o0 d 0)))
theorem f47b_j2_ok (k d e b r) (a:f47b_j2 k d e b=some r):finK Tryd.prog Tryd.f47 0 (EX 47 k (nav B47 [2,2,2,2]) (⟨30,[(0,jB d),(8,jI e),(25,jT b)],[]⟩:St))=some r.st:=by
 unfold f47b_j2 at a
 obtain ⟨f,a⟩:=ifE_some.1 a
 obtain ⟨g,a⟩:=ifE_some.1 a
 obtain ⟨o3,h,a⟩:=bs a
 have c:=f53_ok k (List.take (Int.toNat e) d) _ h
 cases o3 with
 | o0 i =>
  (try dsimp only at a)
  (try simp only [NM,EE,R53.st] at c)
  cases a
  simp (disch:=first|apply D;decide|apply K;kernel_rfl) only [W,simprocAttr,xk B47 [2,2,2,2] .sq rfl,rg B47 [1,2,2,2,2] 6 false rfl,hr_47_6,sliceV,bound,t_22,t_5,callStep,CL,gv,List.contains,xk B47 [2,2,2,2,2] .rt rfl,fin47,R47b.st,f,g,c]
noncomputable def f47b_j1 (k:Nat) (a:List Int) (b:Int) (d:Bool):Option R47b :=
 ifE ((0:Int)≤(IntKind.i64.wrap (((List.length a):Int) - b))) (
  ifE ((Int.toNat (IntKind.i64.wrap (((List.length a):Int) - b)))≤(List.length a)) (
   Option.bind (f37 k (List.take (Int.toNat (IntKind.i64.wrap (((List.length a):Int) - b))) a)) fun o3 =>
    match o3 with
    | .o0 e =>
     Option.bind (f43 k e a) fun o7 =>
      match o7 with
      | .o0 c =>
       cond ((!c))
        (some (.o0 [] 130))
        (f47b_j2 k a (IntKind.i64.wrap (((List.length a):Int) - b)) false)))
theorem f47b_j1_ok (k d g f r) (a:f47b_j1 k d g f=some r):finK Tryd.prog Tryd.f47 0 (EX 47 k (nav B47 [2,2]) (⟨30,[(0,jB d),(1,jI g),(2,V.p (Value.func (Fn.func 37) #[] #[])),(12,jT f)],[]⟩:St))=some r.st:=by
 unfold f47b_j1 at a
 obtain ⟨h,a⟩:=ifE_some.1 a
 obtain ⟨i,a⟩:=ifE_some.1 a
 obtain ⟨o3,j,a⟩:=bs a
 have b:=f37_ok k (List.take (Int.toNat (IntKind.i64.wrap (((List.length d):Int) - g))) d) _ j
 cases o3 with
 | o0 l =>
  (try dsimp only at a)
  (try simp only [NM,EE,R37.st] at b)
  obtain ⟨o7,m,a⟩:=bs a
  have c:=f43_ok k l d _ m
  cases o7 with
  | o0 o =>
   (try dsimp only at a)
   (try simp only [NM,EE,R43.st] at c)
   simp (disch:=first|apply D;decide|apply K;kernel_rfl) only [W,simprocAttr,xk B47 [2,2] .sq rfl,rg B47 [1,2,2] 3 false rfl,hr 47 3 rfl,t_22,xk B47 [2,2,2] .sq rfl,xk B47 [1,2,2,2] .sq rfl,rg B47 [1,1,2,2,2] 4 false rfl,hr 47 4 rfl,sliceV,bound,t_5,callStep,CL,gv,List.contains,xk B47 [2,1,2,2,2] (.cd 25) rfl,h,i,b,c]
   rcases cond_some a with ⟨e,a⟩ | ⟨e,a⟩
   ·cases a
    simp (disch:=first|apply D;decide|apply K;kernel_rfl) only [W,simprocAttr,xk B47 [2,2,1,2,2,2] .sq rfl,rg B47 [1,2,2,1,2,2,2] 5 false rfl,hr_47_5,xk B47 [2,2,2,1,2,2,2] .rt rfl,fin47,R47b.st,h,i,b,c,e]
   ·have hJ:=f47b_j2_ok k d (IntKind.i64.wrap (((List.length d):Int) - g)) false _ a
    simp (disch:=first|apply D;decide|apply K;kernel_rfl) only [W,simprocAttr,xk B47 [3,2,1,2,2,2] .sk rfl,h,i,b,c,e]
    try simp only [NM,EE] at hJ
    exact hJ
noncomputable def f47b_e (k:Nat) (a:List Int) (b:Int):Option R47b :=
 cond ((decide (((List.length a):Int)<b)))
  (some (.o0 [] 7))
  (f47b_j1 k a b false)
theorem f47b_e_ok (k b c r) (a:f47b_e k b c=some r):finK Tryd.prog Tryd.f47 0 (EX 47 k (nav B47 []) (⟨30,[(0,jB b),(1,jI c),(2,V.p (Value.func (Fn.func 37) #[] #[]))],[]⟩:St))=some r.st:=by
 unfold f47b_e at a
 simp (disch:=first|apply D;decide|apply K;kernel_rfl) only [W,simprocAttr,xk B47 [] .sq rfl,rg B47 [1] 0 false rfl,hr 47 0 rfl,xk B47 [2] .sq rfl,xk B47 [1,2] .sq rfl,rg B47 [1,1,2] 1 false rfl,hr 47 1 rfl,t_22,xk B47 [2,1,2] (.cd 12) rfl]
 rcases cond_some a with ⟨d,a⟩ | ⟨d,a⟩
 ·cases a
  simp (disch:=first|apply D;decide|apply K;kernel_rfl) only [W,simprocAttr,xk B47 [2,2,1,2] .sq rfl,rg B47 [1,2,2,1,2] 2 false rfl,hr_47_2,xk B47 [2,2,2,1,2] .rt rfl,fin47,R47b.st,d]
 ·have hJ:=f47b_j1_ok k b c false _ a
  simp (disch:=first|apply D;decide|apply K;kernel_rfl) only [W,simprocAttr,xk B47 [3,2,1,2] .sk rfl,d]
  try simp only [NM,EE] at hJ
  exact hJ
noncomputable def f47b (k:Nat) (a:List Int) (b:Int):Option R47b:=match k with | 0=>none | k+1=>f47b_e k a b
theorem f47b_ok (k a b r) (d:f47b k a b=some r):CV k 47 [jB a,jI b,V.p (Value.func (Fn.func 37) #[] #[])] []=some r.st:=by
 cases k with
 | zero=>cases d
 | succ k =>
  unfold CV
  rw [ev_call (F:=Tryd.f47) (c:=(nav B47 [])) rfl Tryd.func47 rfl rfl rfl rfl]
  exact f47b_e_ok k a b r d
-- f28: f28 heliograph/sum.Open32
inductive R28 where
 | o0 (y:List Int) (a:Int)
noncomputable def R28.st:R28→V×List O×List O
 | .o0 y a=>(V.tup [jB y,jI a],[],[])
noncomputable def f28_e (k:Nat) (a:List Int):Option R28 :=
 Option.bind (f47b k a 4) fun o1 =>
  match o1 with
  | .o0 b c =>
   some (.o0 b c)
theorem f28_e_ok (k c r) (a:f28_e k c=some r):finK Tryd.prog Tryd.f28 0 (EX 28 k (nav B28 []) (⟨8,[(0,jB c)],[]⟩:St))=some r.st:=by
 unfold f28_e at a
 obtain ⟨o1,d,a⟩:=bs a
 have b:=f47b_ok k c 4 _ d
 cases o1 with
 | o0 e f =>
  (try dsimp only at a)
  (try simp only [NM,EE,R47b.st] at b)
  cases a
  simp (disch:=first|apply D;decide|apply K;kernel_rfl) only [W,simprocAttr,xk B28 [] .sq rfl,rg B28 [1] 0 false rfl,hr 28 0 rfl,xk B28 [2] .sq rfl,rg B28 [1,2] 1 false rfl,hr 28 1 rfl,callStep,CL,gv,List.contains,xk B28 [2,2] .rt rfl,fin28,R28.st,b]
noncomputable def f28 (k:Nat) (a:List Int):Option R28:=match k with | 0=>none | k+1=>f28_e k a
theorem f28_ok (k a r) (b:f28 k a=some r):CV k 28 [jB a] []=some r.st:=by
 cases k with
 | zero=>cases b
 | succ k =>
  unfold CV
  rw [ev_call (F:=Tryd.f28) (c:=(nav B28 [])) rfl Tryd.func28 rfl rfl rfl rfl]
  exact f28_e_ok k a r b
-- f38: f38 heliograph/bundle.within
inductive R38 where
 | o0 (y:Bool)
noncomputable def R38.st:R38→V×List O×List O
 | .o0 y=>(jT y,[],[])
noncomputable def f38_e (k:Nat) (a b c:Int):Option R38 :=
 cond ((decide (a≥b)))
  (some (.o0 (decide (a≤c))))
  (some (.o0 false))
theorem f38_e_ok (k c d e r) (a:f38_e k c d e=some r):finK Tryd.prog Tryd.f38 0 (EX 38 k (nav B38 []) (⟨15,[(0,jI c),(1,jI d),(2,jI e)],[]⟩:St))=some r.st:=by
 unfold f38_e at a
 simp (disch:=first|apply D;decide|apply K;kernel_rfl) only [W,simprocAttr,xk B38 [] .sq rfl,rg B38 [1] 0 false rfl,hr 38 0 rfl,xk B38 [2] .sq rfl,rg B38 [1,2] 1 false rfl,hr 38 1 rfl]
 rcases cond_some a with ⟨b,a⟩ | ⟨b,a⟩
 ·cases a
  simp (disch:=first|apply D;decide|apply K;kernel_rfl) only [W,simprocAttr,xk B38 [2,2] .rt rfl,fin38,R38.st,b]
 ·cases a
  simp (disch:=first|apply D;decide|apply K;kernel_rfl) only [W,simprocAttr,xk B38 [2,2] .rt rfl,fin38,R38.st,b]
noncomputable def f38 (k:Nat) (a b c:Int):Option R38:=match k with | 0=>none | k+1=>f38_e k a b c
theorem f38_ok (k a b d r) (e:f38 k a b d=some r):CV k 38 [jI a,jI b,jI d] []=some r.st:=by
 cases k with
 | zero=>cases e
 | succ k =>
  unfold CV
  rw [ev_call (F:=Tryd.f38) (c:=(nav B38 [])) rfl Tryd.func38 rfl rfl rfl rfl]
  exact f38_e_ok k a b d r e
-- f16: f16 heliograph/bundle.Check
inductive R16 where
 | o0 (y:Int)
noncomputable def R16.st:R16→V×List O×List O
 | .o0 y=>((jI y),[],[])
noncomputable def f16_j1 (k:Nat) (a:Bool):Option R16 :=
 some (.o0 0)
theorem f16_j1_ok (k a r) (b:f16_j1 k a=some r):finK Tryd.prog Tryd.f16 0 (EX 16 k (nav B16 [2,2,2,2,2,2]) (⟨73,[(72,jT a)],[]⟩:St))=some r.st:=by
 unfold f16_j1 at b
 cases b
 simp (disch:=first|apply D;decide|apply K;kernel_rfl) only [W,simprocAttr,xk B16 [2,2,2,2,2,2] .sq rfl,rg B16 [1,2,2,2,2,2,2] 7 false rfl,hr 16 7 rfl,xk B16 [2,2,2,2,2,2,2] .rt rfl,fin16,R16.st]
noncomputable def f16_e (k:Nat) (v d e f g c h i j a:Int) (b:List Int):Option R16 :=
 Option.bind (f38 k v 1 6) fun o1 =>
  match o1 with
  | .o0 w =>
   cond (w)
    (
     Option.bind (f38 k d 1 6) fun o6 =>
      match o6 with
      | .o0 x =>
       cond (x)
        (
         cond ((decide (e>0)))
          (
           Option.bind (f38 k f 0 1048576) fun o12 =>
            match o12 with
            | .o0 l =>
             cond (l)
              (
               Option.bind (f38 k g 1 1048576) fun o17 =>
                match o17 with
                | .o0 m =>
                 cond (m)
                  (
                   Option.bind (f38 k c 1 16) fun o22 =>
                    match o22 with
                    | .o0 o =>
                     cond (o)
                      (
                       Option.bind (f38 k h 0 c) fun o27 =>
                        match o27 with
                        | .o0 p =>
                         cond (p)
                          (
                           Option.bind (f38 k i 0 2) fun o32 =>
                            match o32 with
                            | .o0 q =>
                             cond (q)
                              (
                               Option.bind (f38 k a 1 400) fun o37 =>
                                match o37 with
                                | .o0 s =>
                                 cond (s)
                                  (
                                   Option.bind (f38 k ((List.length b):Int) 1 a) fun o42 =>
                                    match o42 with
                                    | .o0 t =>
                                     cond (t)
                                      (
                                       Option.bind (f38 k j 0 (IntKind.i64.wrap (a - ((List.length b):Int)))) fun o47 =>
                                        match o47 with
                                        | .o0 u =>
                                         cond ((!u))
                                          (some (.o0 190))
                                          (f16_j1 k false))
                                      (some (.o0 190)))
                                  (some (.o0 190)))
                              (some (.o0 190)))
                          (some (.o0 190)))
                      (some (.o0 190)))
                  (some (.o0 190)))
              (some (.o0 190)))
          (some (.o0 190)))
        (some (.o0 190)))
    (some (.o0 190))
theorem f16_e_ok (k a0 n ag aa ab y ac ad ae w u r) (a:f16_e k a0 n ag aa ab y ac ad ae w u=some r):finK Tryd.prog Tryd.f16 0 (EX 16 k (nav B16 []) (⟨73,[(0,.agg [jI a0,jI n,jU ag,jI aa,jI ab,jI y,jI ac,jI ad,jI ae,jI w,jB u])],[]⟩:St))=some r.st:=by
 unfold f16_e at a
 obtain ⟨o1,h2,a⟩:=bs a
 have d:=f38_ok k a0 1 6 _ h2
 cases o1 with
 | o0 v4 =>
  (try dsimp only at a)
  (try simp only [NM,EE,R38.st] at d)
  simp (disch:=first|apply D;decide|apply K;kernel_rfl) only [W,simprocAttr,xk B16 [] .sq rfl,rg B16 [1] 0 false rfl,hr 16 0 rfl,xk B16 [2] .sq rfl,rg B16 [1,2] 1 false rfl,hr 16 1 rfl,fieldAddrV,t_26,t_3,callStep,CL,gv,List.contains,d]
  rcases cond_some a with ⟨q,a⟩ | ⟨q,a⟩
  ·obtain ⟨o6,h7,a⟩:=bs a
   have e:=f38_ok k n 1 6 _ h7
   cases o6 with
   | o0 v9 =>
    (try dsimp only at a)
    (try simp only [NM,EE,R38.st] at e)
    simp (disch:=first|apply D;decide|apply K;kernel_rfl) only [W,simprocAttr,fieldAddrV,t_26,t_3,callStep,CL,gv,List.contains,d,q,e]
    rcases cond_some a with ⟨g,a⟩ | ⟨g,a⟩
    ·simp (disch:=first|apply D;decide|apply K;kernel_rfl) only [W,simprocAttr,fieldAddrV,t_26,t_24,xk B16 [2,2] .sq rfl,rg B16 [1,2,2] 2 false rfl,hr 16 2 rfl,d,q,e,g]
     rcases cond_some a with ⟨h,a⟩ | ⟨h,a⟩
     ·obtain ⟨o12,aj,a⟩:=bs a
      have b:=f38_ok k aa 0 1048576 _ aj
      cases o12 with
      | o0 av =>
       (try dsimp only at a)
       (try simp only [NM,EE,R38.st] at b)
       simp (disch:=first|apply D;decide|apply K;kernel_rfl) only [W,simprocAttr,fieldAddrV,t_26,t_3,callStep,CL,gv,List.contains,d,q,e,g,h,b]
       rcases cond_some a with ⟨j,a⟩ | ⟨j,a⟩
       ·obtain ⟨o17,ak,a⟩:=bs a
        have c:=f38_ok k ab 1 1048576 _ ak
        cases o17 with
        | o0 aw =>
         (try dsimp only at a)
         (try simp only [NM,EE,R38.st] at c)
         simp (disch:=first|apply D;decide|apply K;kernel_rfl) only [W,simprocAttr,fieldAddrV,t_26,t_3,callStep,CL,gv,List.contains,xk B16 [2,2,2] .sq rfl,rg B16 [1,2,2,2] 3 false rfl,hr 16 3 rfl,d,q,e,g,h,b,j,c]
         rcases cond_some a with ⟨m,a⟩ | ⟨m,a⟩
         ·obtain ⟨o22,al,a⟩:=bs a
          have f:=f38_ok k y 1 16 _ al
          cases o22 with
          | o0 ax =>
           (try dsimp only at a)
           (try simp only [NM,EE,R38.st] at f)
           simp (disch:=first|apply D;decide|apply K;kernel_rfl) only [W,simprocAttr,fieldAddrV,t_26,t_3,callStep,CL,gv,List.contains,d,q,e,g,h,b,j,c,m,f]
           rcases cond_some a with ⟨o,a⟩ | ⟨o,a⟩
           ·obtain ⟨o27,am,a⟩:=bs a
            have i:=f38_ok k ac 0 y _ am
            cases o27 with
            | o0 ay =>
             (try dsimp only at a)
             (try simp only [NM,EE,R38.st] at i)
             simp (disch:=first|apply D;decide|apply K;kernel_rfl) only [W,simprocAttr,fieldAddrV,t_26,t_3,callStep,CL,gv,List.contains,d,q,e,g,h,b,j,c,m,f,o,i]
             rcases cond_some a with ⟨s,a⟩ | ⟨s,a⟩
             ·obtain ⟨o32,an,a⟩:=bs a
              have l:=f38_ok k ad 0 2 _ an
              cases o32 with
              | o0 az =>
               (try dsimp only at a)
               (try simp only [NM,EE,R38.st] at l)
               simp (disch:=first|apply D;decide|apply K;kernel_rfl) only [W,simprocAttr,fieldAddrV,t_26,t_3,callStep,CL,gv,List.contains,xk B16 [2,2,2,2] .sq rfl,rg B16 [1,2,2,2,2] 4 false rfl,hr 16 4 rfl,d,q,e,g,h,b,j,c,m,f,o,i,s,l]
               rcases cond_some a with ⟨v,a⟩ | ⟨v,a⟩
               ·obtain ⟨o37,ao,a⟩:=bs a
                have p:=f38_ok k w 1 400 _ ao
                cases o37 with
                | o0 a1 =>
                 (try dsimp only at a)
                 (try simp only [NM,EE,R38.st] at p)
                 simp (disch:=first|apply D;decide|apply K;kernel_rfl) only [W,simprocAttr,fieldAddrV,t_26,t_3,callStep,CL,gv,List.contains,d,q,e,g,h,b,j,c,m,f,o,i,s,l,v,p]
                 rcases cond_some a with ⟨x,a⟩ | ⟨x,a⟩
                 ·obtain ⟨o42,ap,a⟩:=bs a
                  have t:=f38_ok k ((List.length u):Int) 1 w _ ap
                  cases o42 with
                  | o0 a2 =>
                   (try dsimp only at a)
                   (try simp only [NM,EE,R38.st] at t)
                   simp (disch:=first|apply D;decide|apply K;kernel_rfl) only [W,simprocAttr,fieldAddrV,t_26,t_22,t_3,callStep,CL,gv,List.contains,d,q,e,g,h,b,j,c,m,f,o,i,s,l,v,p,x,t]
                   rcases cond_some a with ⟨af,a⟩ | ⟨af,a⟩
                   ·obtain ⟨o47,aq,a⟩:=bs a
                    have z:=f38_ok k ae 0 (IntKind.i64.wrap (w - ((List.length u):Int))) _ aq
                    cases o47 with
                    | o0 a3 =>
                     (try dsimp only at a)
                     (try simp only [NM,EE,R38.st] at z)
                     simp (disch:=first|apply D;decide|apply K;kernel_rfl) only [W,simprocAttr,fieldAddrV,t_26,t_3,t_22,callStep,CL,gv,List.contains,xk B16 [2,2,2,2,2] .sq rfl,xk B16 [1,2,2,2,2,2] .sq rfl,rg B16 [1,1,2,2,2,2,2] 5 false rfl,hr 16 5 rfl,xk B16 [2,1,2,2,2,2,2] (.cd 72) rfl,d,q,e,g,h,b,j,c,m,f,o,i,s,l,v,p,x,t,af,z]
                     rcases cond_some a with ⟨ah,a⟩ | ⟨ah,a⟩
                     ·cases a
                      simp (disch:=first|apply D;decide|apply K;kernel_rfl) only [W,simprocAttr,xk B16 [2,2,1,2,2,2,2,2] .sq rfl,rg B16 [1,2,2,1,2,2,2,2,2] 6 false rfl,hr 16 6 rfl,xk B16 [2,2,2,1,2,2,2,2,2] .rt rfl,fin16,R16.st,d,q,e,g,h,b,j,c,m,f,o,i,s,l,v,p,x,t,af,z,ah]
                     ·have hJ:=f16_j1_ok k false _ a
                      simp (disch:=first|apply D;decide|apply K;kernel_rfl) only [W,simprocAttr,xk B16 [3,2,1,2,2,2,2,2] .sk rfl,d,q,e,g,h,b,j,c,m,f,o,i,s,l,v,p,x,t,af,z,ah]
                      try simp only [NM,EE] at hJ
                      exact hJ
                   ·cases a
                    simp (disch:=first|apply D;decide|apply K;kernel_rfl) only [W,simprocAttr,xk B16 [2,2,2,2,2] .sq rfl,xk B16 [1,2,2,2,2,2] .sq rfl,rg B16 [1,1,2,2,2,2,2] 5 false rfl,hr 16 5 rfl,xk B16 [2,1,2,2,2,2,2] (.cd 72) rfl,xk B16 [2,2,1,2,2,2,2,2] .sq rfl,rg B16 [1,2,2,1,2,2,2,2,2] 6 false rfl,hr 16 6 rfl,xk B16 [2,2,2,1,2,2,2,2,2] .rt rfl,fin16,R16.st,d,q,e,g,h,b,j,c,m,f,o,i,s,l,v,p,x,t,af]
                 ·cases a
                  simp (disch:=first|apply D;decide|apply K;kernel_rfl) only [W,simprocAttr,xk B16 [2,2,2,2,2] .sq rfl,xk B16 [1,2,2,2,2,2] .sq rfl,rg B16 [1,1,2,2,2,2,2] 5 false rfl,hr 16 5 rfl,xk B16 [2,1,2,2,2,2,2] (.cd 72) rfl,xk B16 [2,2,1,2,2,2,2,2] .sq rfl,rg B16 [1,2,2,1,2,2,2,2,2] 6 false rfl,hr 16 6 rfl,xk B16 [2,2,2,1,2,2,2,2,2] .rt rfl,fin16,R16.st,d,q,e,g,h,b,j,c,m,f,o,i,s,l,v,p,x]
               ·cases a
                simp (disch:=first|apply D;decide|apply K;kernel_rfl) only [W,simprocAttr,xk B16 [2,2,2,2,2] .sq rfl,xk B16 [1,2,2,2,2,2] .sq rfl,rg B16 [1,1,2,2,2,2,2] 5 false rfl,hr 16 5 rfl,xk B16 [2,1,2,2,2,2,2] (.cd 72) rfl,xk B16 [2,2,1,2,2,2,2,2] .sq rfl,rg B16 [1,2,2,1,2,2,2,2,2] 6 false rfl,hr 16 6 rfl,xk B16 [2,2,2,1,2,2,2,2,2] .rt rfl,fin16,R16.st,d,q,e,g,h,b,j,c,m,f,o,i,s,l,v]
             ·cases a
              simp (disch:=first|apply D;decide|apply K;kernel_rfl) only [W,simprocAttr,xk B16 [2,2,2,2] .sq rfl,rg B16 [1,2,2,2,2] 4 false rfl,hr 16 4 rfl,xk B16 [2,2,2,2,2] .sq rfl,xk B16 [1,2,2,2,2,2] .sq rfl,rg B16 [1,1,2,2,2,2,2] 5 false rfl,hr 16 5 rfl,xk B16 [2,1,2,2,2,2,2] (.cd 72) rfl,xk B16 [2,2,1,2,2,2,2,2] .sq rfl,rg B16 [1,2,2,1,2,2,2,2,2] 6 false rfl,hr 16 6 rfl,xk B16 [2,2,2,1,2,2,2,2,2] .rt rfl,fin16,R16.st,d,q,e,g,h,b,j,c,m,f,o,i,s]
           ·cases a
            simp (disch:=first|apply D;decide|apply K;kernel_rfl) only [W,simprocAttr,xk B16 [2,2,2,2] .sq rfl,rg B16 [1,2,2,2,2] 4 false rfl,hr 16 4 rfl,xk B16 [2,2,2,2,2] .sq rfl,xk B16 [1,2,2,2,2,2] .sq rfl,rg B16 [1,1,2,2,2,2,2] 5 false rfl,hr 16 5 rfl,xk B16 [2,1,2,2,2,2,2] (.cd 72) rfl,xk B16 [2,2,1,2,2,2,2,2] .sq rfl,rg B16 [1,2,2,1,2,2,2,2,2] 6 false rfl,hr 16 6 rfl,xk B16 [2,2,2,1,2,2,2,2,2] .rt rfl,fin16,R16.st,d,q,e,g,h,b,j,c,m,f,o]
         ·cases a
          simp (disch:=first|apply D;decide|apply K;kernel_rfl) only [W,simprocAttr,xk B16 [2,2,2,2] .sq rfl,rg B16 [1,2,2,2,2] 4 false rfl,hr 16 4 rfl,xk B16 [2,2,2,2,2] .sq rfl,xk B16 [1,2,2,2,2,2] .sq rfl,rg B16 [1,1,2,2,2,2,2] 5 false rfl,hr 16 5 rfl,xk B16 [2,1,2,2,2,2,2] (.cd 72) rfl,xk B16 [2,2,1,2,2,2,2,2] .sq rfl,rg B16 [1,2,2,1,2,2,2,2,2] 6 false rfl,hr 16 6 rfl,xk B16 [2,2,2,1,2,2,2,2,2] .rt rfl,fin16,R16.st,d,q,e,g,h,b,j,c,m]
       ·cases a
        simp (disch:=first|apply D;decide|apply K;kernel_rfl) only [W,simprocAttr,xk B16 [2,2,2] .sq rfl,rg B16 [1,2,2,2] 3 false rfl,hr 16 3 rfl,xk B16 [2,2,2,2] .sq rfl,rg B16 [1,2,2,2,2] 4 false rfl,hr 16 4 rfl,xk B16 [2,2,2,2,2] .sq rfl,xk B16 [1,2,2,2,2,2] .sq rfl,rg B16 [1,1,2,2,2,2,2] 5 false rfl,hr 16 5 rfl,xk B16 [2,1,2,2,2,2,2] (.cd 72) rfl,xk B16 [2,2,1,2,2,2,2,2] .sq rfl,rg B16 [1,2,2,1,2,2,2,2,2] 6 false rfl,hr 16 6 rfl,xk B16 [2,2,2,1,2,2,2,2,2] .rt rfl,fin16,R16.st,d,q,e,g,h,b,j]
     ·cases a
      simp (disch:=first|apply D;decide|apply K;kernel_rfl) only [W,simprocAttr,xk B16 [2,2,2] .sq rfl,rg B16 [1,2,2,2] 3 false rfl,hr 16 3 rfl,xk B16 [2,2,2,2] .sq rfl,rg B16 [1,2,2,2,2] 4 false rfl,hr 16 4 rfl,xk B16 [2,2,2,2,2] .sq rfl,xk B16 [1,2,2,2,2,2] .sq rfl,rg B16 [1,1,2,2,2,2,2] 5 false rfl,hr 16 5 rfl,xk B16 [2,1,2,2,2,2,2] (.cd 72) rfl,xk B16 [2,2,1,2,2,2,2,2] .sq rfl,rg B16 [1,2,2,1,2,2,2,2,2] 6 false rfl,hr 16 6 rfl,xk B16 [2,2,2,1,2,2,2,2,2] .rt rfl,fin16,R16.st,d,q,e,g,h]
    ·cases a
     simp (disch:=first|apply D;decide|apply K;kernel_rfl) only [W,simprocAttr,xk B16 [2,2] .sq rfl,rg B16 [1,2,2] 2 false rfl,hr 16 2 rfl,xk B16 [2,2,2] .sq rfl,rg B16 [1,2,2,2] 3 false rfl,hr 16 3 rfl,xk B16 [2,2,2,2] .sq rfl,rg B16 [1,2,2,2,2] 4 false rfl,hr 16 4 rfl,xk B16 [2,2,2,2,2] .sq rfl,xk B16 [1,2,2,2,2,2] .sq rfl,rg B16 [1,1,2,2,2,2,2] 5 false rfl,hr 16 5 rfl,xk B16 [2,1,2,2,2,2,2] (.cd 72) rfl,xk B16 [2,2,1,2,2,2,2,2] .sq rfl,rg B16 [1,2,2,1,2,2,2,2,2] 6 false rfl,hr 16 6 rfl,xk B16 [2,2,2,1,2,2,2,2,2] .rt rfl,fin16,R16.st,d,q,e,g]
  ·cases a
   simp (disch:=first|apply D;decide|apply K;kernel_rfl) only [W,simprocAttr,xk B16 [2,2] .sq rfl,rg B16 [1,2,2] 2 false rfl,hr 16 2 rfl,xk B16 [2,2,2] .sq rfl,rg B16 [1,2,2,2] 3 false rfl,hr 16 3 rfl,xk B16 [2,2,2,2] .sq rfl,rg B16 [1,2,2,2,2] 4 false rfl,hr 16 4 rfl,xk B16 [2,2,2,2,2] .sq rfl,xk B16 [1,2,2,2,2,2] .sq rfl,rg B16 [1,1,2,2,2,2,2] 5 false rfl,hr 16 5 rfl,xk B16 [2,1,2,2,2,2,2] (.cd 72) rfl,xk B16 [2,2,1,2,2,2,2,2] .sq rfl,rg B16 [1,2,2,1,2,2,2,2,2] 6 false rfl,hr 16 6 rfl,xk B16 [2,2,2,1,2,2,2,2,2] .rt rfl,fin16,R16.st,d,q]
noncomputable def f16 (k:Nat) (l b c d e f g h i j:Int) (a:List Int):Option R16:=match k with | 0=>none | k+1=>f16_e k l b c d e f g h i j a
theorem f16_ok (k m b d e f g h i j l a r) (o:f16 k m b d e f g h i j l a=some r):CV k 16 [.agg [jI m,jI b,jU d,jI e,jI f,jI g,jI h,jI i,jI j,jI l,jB a]] []=some r.st:=by
 cases k with
 | zero=>cases o
 | succ k =>
  unfold CV
  rw [ev_call (F:=Tryd.f16) (c:=(nav B16 [])) rfl Tryd.func16 rfl rfl rfl rfl]
  exact f16_e_ok k m b d e f g h i j l a r o
-- f36: f36 heliograph/cbor.Number
inductive R36 where
 | o0 (y a:Int) (b:List Int) (c:List T50)
noncomputable def R36.st:R36→V×List O×List O
 | .o0 y a b c=>(.agg [jI y,jL a,jB b,.sl 4 (rowsOf encT50 c)],[],[])
noncomputable def f36_e (k:Nat) (a:Int):Option R36 :=
 some (.o0 1 a [] [])
theorem f36_e_ok (k a r) (b:f36_e k a=some r):finK Tryd.prog Tryd.f36 0 (EX 36 k (nav B36 []) (⟨5,[(0,jL a)],[]⟩:St))=some r.st:=by
 unfold f36_e at b
 cases b
 simp (disch:=first|apply D;decide|apply K;kernel_rfl) only [W,simprocAttr,xk B36 [] .sq rfl,rg B36 [1] 0 false rfl,hr_36_0,t_50,xk B36 [2] .sq rfl,rg B36 [1,2] 1 false rfl,hr_36_1,bl_50,xk B36 [2,2] .rt rfl,fin36,R36.st]
noncomputable def f36 (k:Nat) (a:Int):Option R36:=match k with | 0=>none | k+1=>f36_e k a
theorem f36_ok (k a r) (b:f36 k a=some r):CV k 36 [jL a] []=some r.st:=by
 cases k with
 | zero=>cases b
 | succ k =>
  unfold CV
  rw [ev_call (F:=Tryd.f36) (c:=(nav B36 [])) rfl Tryd.func36 rfl rfl rfl rfl]
  exact f36_e_ok k a r b
end Go.Proofs.YtbnnmplkbpgcaaaDoorV