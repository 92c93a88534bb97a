/- What the program's functions answer: plain functions,and that the interpreter answers what they do. Written by a program of this session,out of the translation. -/
import Derived.Test.YtbnnmplkbpgcaaaDoorVP12
namespace Go.Proofs.YtbnnmplkbpgcaaaDoorV
open Go
set_option linter.unusedVariables false
set_option linter.unusedSimpArgs false
set_option maxRecDepth 8000
set_option maxHeartbeats 4000000
-- f58: f58 heliograph/heliographref03.Sum
inductive R58 where
 | o0 (y:Int)
noncomputable def R58.st:R58→V×List O×List O
 | .o0 y=>(jL y,[],[])
inductive R58_l2_l2 where
 | o0 (y:List Int) (a b c d e:Int)
 | o1 (y:List Int) (a b c d e:Int) (f:Bool)
noncomputable def R58_l2_l2.st:R58_l2_l2→Out×St
 | .o0 y a b c d e=>(.norm,(⟨43,[(0,jB y),(5,jL a),(6,jL b),(7,jL c),(8,jI d),(9,jI e)],[]⟩:St))
 | .o1 y a b c d e f=>(.exit 2,(⟨43,[(0,jB y),(5,jL a),(6,jL b),(7,jL c),(8,jI d),(9,jI e),(27,jT f)],[]⟩:St))
noncomputable def f58_l2_l2_j2 (k:Nat) (a:List Int) (b c d e f:Int):Option R58_l2_l2 :=
 some (R58_l2_l2.o0 a b c d e (IntKind.i64.wrap (f+(1:Int))))
theorem f58_l2_l2_j2_ok (k a b c d e f r) (g:f58_l2_l2_j2 k a b c d e f=some r):EX 58 k (nav B58 [2,2,1,2,2,2,2,1,2,1,2,2,1,2,2,2,2]) (⟨43,[(0,jB a),(5,jL b),(6,jL c),(7,jL d),(8,jI e),(9,jI f)],[]⟩:St)=some r.st:=by
 unfold f58_l2_l2_j2 at g
 cases g
 simp (disch:=first|apply D;decide|apply K;kernel_rfl) only [W,simprocAttr,rg B58 [2,2,1,2,2,2,2,1,2,1,2,2,1,2,2,2,2] 11 false rfl,hr 58 11 rfl,R58_l2_l2.st]
noncomputable def f58_l2_l2_j1 (k:Nat) (c:List Int) (d a b e f:Int) (g:Bool):Option R58_l2_l2 :=
 cond (((Int.tmod b (2:Int))==1))
  (f58_l2_l2_j2 k c d a ((IntKind.u64.wrap ((BitVec.ofInt (IntKind.bits .u64) (IntKind.u64.wrap (Int.tdiv (IntKind.u64.wrap (b - (1:Int))) (2:Int))) ^^^ BitVec.ofInt (IntKind.bits .u64) a).toNat:Nat))) e f)
  (f58_l2_l2_j2 k c d a (IntKind.u64.wrap (Int.tdiv b (2:Int))) e f)
theorem f58_l2_l2_j1_ok (k d e b f g h c r) (a:f58_l2_l2_j1 k d e b f g h c=some r):EX 58 k (nav B58 [2,1,2,2,2,2,1,2,1,2,2,1,2,2,2,2]) (⟨43,[(0,jB d),(5,jL e),(6,jL b),(7,jL f),(8,jI g),(9,jI h),(27,jT c)],[]⟩:St)=some r.st:=by
 unfold f58_l2_l2_j1 at a
 simp (disch:=first|apply D;decide|apply K;kernel_rfl) only [W,simprocAttr,xk B58 [2,1,2,2,2,2,1,2,1,2,2,1,2,2,2,2] .sq rfl,xk B58 [1,2,1,2,2,2,2,1,2,1,2,2,1,2,2,2,2] (.bk 3) rfl,xk B58 [2,1,2,1,2,2,2,2,1,2,1,2,2,1,2,2,2,2] .sq rfl,rg B58 [1,2,1,2,1,2,2,2,2,1,2,1,2,2,1,2,2,2,2] 12 false rfl,hr 58 12 rfl,xk B58 [2,2,1,2,1,2,2,2,2,1,2,1,2,2,1,2,2,2,2] (.cd 32) rfl]
 rcases cond_some a with ⟨i,a⟩ | ⟨i,a⟩
 ·have hJ:=f58_l2_l2_j2_ok k d e b ((IntKind.u64.wrap ((BitVec.ofInt (IntKind.bits .u64) (IntKind.u64.wrap (Int.tdiv (IntKind.u64.wrap (f - (1:Int))) (2:Int))) ^^^ BitVec.ofInt (IntKind.bits .u64) b).toNat:Nat))) g h _ a
  simp (disch:=first|apply D;decide|apply K;kernel_rfl) only [W,simprocAttr,rg B58 [2,2,2,1,2,1,2,2,2,2,1,2,1,2,2,1,2,2,2,2] 13 false rfl,hr 58 13 rfl,i]
  try simp only [NM,EE] at hJ
  exact hJ
 ·have hJ:=f58_l2_l2_j2_ok k d e b (IntKind.u64.wrap (Int.tdiv f (2:Int))) g h _ a
  simp (disch:=first|apply D;decide|apply K;kernel_rfl) only [W,simprocAttr,rg B58 [3,2,2,1,2,1,2,2,2,2,1,2,1,2,2,1,2,2,2,2] 14 false rfl,hr 58 14 rfl,i]
  try simp only [NM,EE] at hJ
  exact hJ
noncomputable def f58_l2_l2_b (k:Nat) (b:List Int) (c d e f a:Int):Option R58_l2_l2 :=
 cond ((decide (a<8)))
  (f58_l2_l2_j1 k b c d e f a true)
  (some (R58_l2_l2.o1 b c d e f a false))
theorem f58_l2_l2_b_ok (k b c d e f g r) (a:f58_l2_l2_b k b c d e f g=some r):EX 58 k (nav B58 [1,2,2,2,2,1,2,1,2,2,1,2,2,2,2]) (⟨43,[(0,jB b),(5,jL c),(6,jL d),(7,jL e),(8,jI f),(9,jI g)],[]⟩:St)=some r.st:=by
 unfold f58_l2_l2_b at a
 simp (disch:=first|apply D;decide|apply K;kernel_rfl) only [W,simprocAttr,xk B58 [1,2,2,2,2,1,2,1,2,2,1,2,2,2,2] .sq rfl,xk B58 [1,1,2,2,2,2,1,2,1,2,2,1,2,2,2,2] .sq rfl,rg B58 [1,1,1,2,2,2,2,1,2,1,2,2,1,2,2,2,2] 10 false rfl,hr 58 10 rfl,xk B58 [2,1,1,2,2,2,2,1,2,1,2,2,1,2,2,2,2] (.cd 27) rfl]
 rcases cond_some a with ⟨h,a⟩ | ⟨h,a⟩
 ·have hJ:=f58_l2_l2_j1_ok k b c d e f g true _ a
  simp (disch:=first|apply D;decide|apply K;kernel_rfl) only [W,simprocAttr,xk B58 [2,2,1,1,2,2,2,2,1,2,1,2,2,1,2,2,2,2] .sk rfl,h]
  try simp only [NM,EE] at hJ
  exact hJ
 ·cases a
  simp (disch:=first|apply D;decide|apply K;kernel_rfl) only [W,simprocAttr,xk B58 [3,2,1,1,2,2,2,2,1,2,1,2,2,1,2,2,2,2] (.ex 2) rfl,R58_l2_l2.st,h]
noncomputable def f58_l2_l2 (k:Nat):Nat→(List Int)→Int→Int→Int→Int→Int→Option R58_l2_l2
 | 0,_,_,_,_,_,_=>none
 | n+1,g,h,i,j,l,m=>Option.bind (f58_l2_l2_b k g h i j l m) fun o =>
  match o with
  | .o0 y a b c d e=>f58_l2_l2 k n y a b c d e
  | .o1 y a b c d e f=>some (.o1 y a b c d e f)
theorem f58_l2_l2_ok (k n:Nat):∀ (b:List Int) (c d e f g:Int) (r:R58_l2_l2) (a:f58_l2_l2 k n b c d e f g=some r) (σ:St) (hσ:headR (hints.head 58 10) (hints.canon 58 10) σ=some (⟨43,[(0,jB b),(5,jL c),(6,jL d),(7,jL e),(8,jI f),(9,jI g)],[]⟩:St)),LP 58 k (nav B58 [1,2,2,2,2,1,2,1,2,2,1,2,2,2,2]) n σ=some r.st:=by
 induction n with
 | zero=>intro b c d e f g r a;cases a
 | succ n q =>
  intro b c d e f g r a σ hσ
  rw [f58_l2_l2] at a
  obtain ⟨o,h,a⟩:=Option.bind_eq_some_iff.1 a
  have hB:=f58_l2_l2_b_ok k b c d e f g o h
  unfold LP at q ⊢
  unfold EX at hB
  rw [loopK_succ,show firstReg (nav B58 [1,2,2,2,2,1,2,1,2,2,1,2,2,2,2])=10 from rfl,hσ,headK_some,hB]
  cases o with
  | o0 y i j l m p =>
   refine q y i j l m p r a _ ?_
   simp (disch:=first|apply D;decide|apply K;kernel_rfl) only [W,simprocAttr,hh_58_10,hc_58_10]
  | o1 y i j l m p s=>cases a;rfl
inductive R58_l2 where
 | o0 (y:List Int) (a b c d:Int)
 | o1 (y:List Int) (a b c d:Int) (e:Bool)
noncomputable def R58_l2.st:R58_l2→Out×St
 | .o0 y a b c d=>(.norm,(⟨43,[(0,jB y),(5,jL a),(6,jL b),(7,jL c),(8,jI d)],[]⟩:St))
 | .o1 y a b c d e=>(.exit 0,(⟨43,[(0,jB y),(5,jL a),(6,jL b),(7,jL c),(8,jI d),(16,jT e)],[]⟩:St))
noncomputable def f58_l2_j3 (k:Nat) (a:List Int) (b c d e g:Int) (f:Bool):Option R58_l2 :=
 some (.o0 a b c d (IntKind.i64.wrap (e+(1:Int))))
theorem f58_l2_j3_ok (k b c d e f g a r) (h:f58_l2_j3 k b c d e f g a=some r):EX 58 k (nav B58 [2,2,1,2,2,1,2,2,2,2]) (⟨43,[(0,jB b),(5,jL c),(6,jL d),(7,jL e),(8,jI f),(9,jI g),(27,jT a)],[]⟩:St)=some r.st:=by
 unfold f58_l2_j3 at h
 cases h
 simp (disch:=first|apply D;decide|apply K;kernel_rfl) only [W,simprocAttr,rg B58 [2,2,1,2,2,1,2,2,2,2] 7 false rfl,hr 58 7 rfl,R58_l2.st]
noncomputable def f58_l2_j1 (k:Nat) (f:List Int) (g h i a:Int) (j:Bool):Option R58_l2 :=
 ifE ((0:Int)≤a) (
  Option.bind (f[(Int.toNat a)]?) fun l =>
   Option.bind (f58_l2_l2 k k f g h ((IntKind.u64.wrap ((BitVec.ofInt (IntKind.bits .u64) i ^^^ BitVec.ofInt (IntKind.bits .u64) (IntKind.u64.wrap l)).toNat:Nat))) a 0) fun o4 =>
    match o4 with
    | .o0 _ _ _ _ _ _ =>
     none
    | .o1 m o p b c d e =>
     f58_l2_j3 k m o p b c d e)
theorem f58_l2_j1_ok (k d e f g h c r) (a:f58_l2_j1 k d e f g h c=some r):EX 58 k (nav B58 [2,1,2,2,1,2,2,2,2]) (⟨43,[(0,jB d),(5,jL e),(6,jL f),(7,jL g),(8,jI h),(16,jT c)],[]⟩:St)=some r.st:=by
 unfold f58_l2_j1 at a
 obtain ⟨i,a⟩:=ifE_some.1 a
 obtain ⟨q,j,a⟩:=bs a
 obtain ⟨o4,s,a⟩:=bs a
 have b:=f58_l2_l2_ok k k d e f ((IntKind.u64.wrap ((BitVec.ofInt (IntKind.bits .u64) g ^^^ BitVec.ofInt (IntKind.bits .u64) (IntKind.u64.wrap q)).toNat:Nat))) h 0 _ s
 simp (disch:=first|apply D;decide|apply K;kernel_rfl) only [W,simprocAttr,xk B58 [2,1,2,2,1,2,2,2,2] .sq rfl,xk B58 [1,2,1,2,2,1,2,2,2,2] (.bk 1) rfl,xk B58 [2,1,2,1,2,2,1,2,2,2,2] .sq rfl,rg B58 [1,2,1,2,1,2,2,1,2,2,2,2] 8 false rfl,hr 58 8 rfl,indexAddrV,t_22,t_5,encI_eq,t_47,convV,xk B58 [2,2,1,2,1,2,2,1,2,2,2,2] .sq rfl,rg B58 [1,2,2,1,2,1,2,2,1,2,2,2,2] 9 false rfl,hr 58 9 rfl,xk B58 [2,2,2,1,2,1,2,2,1,2,2,2,2] (.bk 2) rfl,xk B58 [2,2,2,2,1,2,1,2,2,1,2,2,2,2] .lp rfl,hh_58_10,hc_58_10,i,j]
 (try simp only [NM,EE] at b)
 rw [b _ (by simp (disch:=first|apply D;decide|apply K;kernel_rfl) only [W,simprocAttr,hh_58_10,hc_58_10,i,j])]
 clear b
 cases o4 with
 | o0 _ _ _ _ _ _ =>
  (try dsimp only at a)
  cases a
 | o1 t u v l m o p =>
  (try dsimp only at a)
  have hJ:=f58_l2_j3_ok k t u v l m o p _ a
  simp (disch:=first|apply D;decide|apply K;kernel_rfl) only [W,simprocAttr,R58_l2_l2.st,i,j]
  try simp only [NM,EE] at hJ
  exact hJ
noncomputable def f58_l2_b (k:Nat) (a:List Int) (c d e b:Int):Option R58_l2 :=
 cond ((decide (b<((List.length a):Int))))
  (f58_l2_j1 k a c d e b true)
  (some (.o1 a c d e b false))
theorem f58_l2_b_ok (k b c d e f r) (a:f58_l2_b k b c d e f=some r):EX 58 k (nav B58 [1,2,2,1,2,2,2,2]) (⟨43,[(0,jB b),(5,jL c),(6,jL d),(7,jL e),(8,jI f)],[]⟩:St)=some r.st:=by
 unfold f58_l2_b at a
 simp (disch:=first|apply D;decide|apply K;kernel_rfl) only [W,simprocAttr,xk B58 [1,2,2,1,2,2,2,2] .sq rfl,xk B58 [1,1,2,2,1,2,2,2,2] .sq rfl,rg B58 [1,1,1,2,2,1,2,2,2,2] 6 false rfl,hr 58 6 rfl,t_22,xk B58 [2,1,1,2,2,1,2,2,2,2] (.cd 16) rfl]
 rcases cond_some a with ⟨g,a⟩ | ⟨g,a⟩
 ·have hJ:=f58_l2_j1_ok k b c d e f true _ a
  simp (disch:=first|apply D;decide|apply K;kernel_rfl) only [W,simprocAttr,xk B58 [2,2,1,1,2,2,1,2,2,2,2] .sk rfl,g]
  try simp only [NM,EE] at hJ
  exact hJ
 ·cases a
  simp (disch:=first|apply D;decide|apply K;kernel_rfl) only [W,simprocAttr,xk B58 [3,2,1,1,2,2,1,2,2,2,2] (.ex 0) rfl,R58_l2.st,g]
noncomputable def f58_l2 (k:Nat):Nat→(List Int)→Int→Int→Int→Int→Option R58_l2
 | 0,_,_,_,_,_=>none
 | n+1,f,g,h,i,j=>Option.bind (f58_l2_b k f g h i j) fun o =>
  match o with
  | .o0 y a b c d=>f58_l2 k n y a b c d
  | .o1 y a b c d e=>some (.o1 y a b c d e)
theorem f58_l2_ok (k n:Nat):∀ (b:List Int) (c d e f:Int) (r:R58_l2) (a:f58_l2 k n b c d e f=some r) (σ:St) (hσ:headR (hints.head 58 6) (hints.canon 58 6) σ=some (⟨43,[(0,jB b),(5,jL c),(6,jL d),(7,jL e),(8,jI f)],[]⟩:St)),LP 58 k (nav B58 [1,2,2,1,2,2,2,2]) n σ=some r.st:=by
 induction n with
 | zero=>intro b c d e f r a;cases a
 | succ n m =>
  intro b c d e f r a σ hσ
  rw [f58_l2] at a
  obtain ⟨o,h,a⟩:=Option.bind_eq_some_iff.1 a
  have hB:=f58_l2_b_ok k b c d e f o h
  unfold LP at m ⊢
  unfold EX at hB
  rw [loopK_succ,show firstReg (nav B58 [1,2,2,1,2,2,2,2])=6 from rfl,hσ,headK_some,hB]
  cases o with
  | o0 y g i j l =>
   refine m y g i j l r a _ ?_
   simp (disch:=first|apply D;decide|apply K;kernel_rfl) only [W,simprocAttr,hh_58_6,hc_58_6]
  | o1 y g i j l p=>cases a;rfl
noncomputable def f58_j3 (k:Nat) (d:List Int) (a e b f:Int) (c:Bool):Option R58 :=
 some (.o0 ((IntKind.u64.wrap ((BitVec.ofInt (IntKind.bits .u64) b ^^^ BitVec.ofInt (IntKind.bits .u64) a).toNat:Nat))))
theorem f58_j3_ok (k b c d e f a r) (g:f58_j3 k b c d e f a=some r):finK Tryd.prog Tryd.f58 0 (EX 58 k (nav B58 [2,2,2,2,2]) (⟨43,[(0,jB b),(5,jL c),(6,jL d),(7,jL e),(8,jI f),(16,jT a)],[]⟩:St))=some r.st:=by
 unfold f58_j3 at g
 cases g
 simp (disch:=first|apply D;decide|apply K;kernel_rfl) only [W,simprocAttr,xk B58 [2,2,2,2,2] .sq rfl,rg B58 [1,2,2,2,2,2] 15 false rfl,hr 58 15 rfl,xk B58 [2,2,2,2,2,2] .rt rfl,fin58,R58.st]
noncomputable def f58_j1 (k:Nat) (b:List Int) (a c:Int):Option R58 :=
 Option.bind (f58_l2 k k b a c a 0) fun o1 =>
  match o1 with
  | .o0 _ _ _ _ _ =>
   none
  | .o1 d e f g h i =>
   f58_j3 k d e f g h i
theorem f58_j1_ok (k d c e r) (a:f58_j1 k d c e=some r):finK Tryd.prog Tryd.f58 0 (EX 58 k (nav B58 [2,2,2]) (⟨43,[(0,jB d),(5,jL c),(6,jL e)],[]⟩:St))=some r.st:=by
 unfold f58_j1 at a
 obtain ⟨o1,f,a⟩:=bs a
 have b:=f58_l2_ok k k d c e c 0 _ f
 simp (disch:=first|apply D;decide|apply K;kernel_rfl) only [W,simprocAttr,xk B58 [2,2,2] .sq rfl,rg B58 [1,2,2,2] 4 false rfl,hr 58 4 rfl,xk B58 [2,2,2,2] .sq rfl,xk B58 [1,2,2,2,2] .sq rfl,rg B58 [1,1,2,2,2,2] 5 false rfl,hr 58 5 rfl,xk B58 [2,1,2,2,2,2] (.bk 0) rfl,xk B58 [2,2,1,2,2,2,2] .lp rfl,hh_58_6,hc_58_6]
 (try simp only [NM,EE] at b)
 rw [b _ (by simp (disch:=first|apply D;decide|apply K;kernel_rfl) only [W,simprocAttr,hh_58_6,hc_58_6])]
 clear b
 cases o1 with
 | o0 _ _ _ _ _ =>
  (try dsimp only at a)
  cases a
 | o1 g h i j l m =>
  (try dsimp only at a)
  have hJ:=f58_j3_ok k g h i j l m _ a
  simp (disch:=first|apply D;decide|apply K;kernel_rfl) only [W,simprocAttr,R58_l2.st]
  try simp only [NM,EE] at hJ
  exact hJ
noncomputable def f58_j4 (k:Nat) (b:List Int) (a c:Int) (d:Bool):Option R58 :=
 Option.bind (f58_l2 k k b a c a 0) fun o1 =>
  match o1 with
  | .o0 _ _ _ _ _ =>
   none
  | .o1 e f g h i j =>
   f58_j3 k e f g h i j
theorem f58_j4_ok (k e d f c r) (a:f58_j4 k e d f c=some r):finK Tryd.prog Tryd.f58 0 (EX 58 k (nav B58 [2,2,2]) (⟨43,[(0,jB e),(5,jL d),(6,jL f),(11,jT c)],[]⟩:St))=some r.st:=by
 unfold f58_j4 at a
 obtain ⟨o1,g,a⟩:=bs a
 have b:=f58_l2_ok k k e d f d 0 _ g
 simp (disch:=first|apply D;decide|apply K;kernel_rfl) only [W,simprocAttr,xk B58 [2,2,2] .sq rfl,rg B58 [1,2,2,2] 4 false rfl,hr 58 4 rfl,xk B58 [2,2,2,2] .sq rfl,xk B58 [1,2,2,2,2] .sq rfl,rg B58 [1,1,2,2,2,2] 5 false rfl,hr 58 5 rfl,xk B58 [2,1,2,2,2,2] (.bk 0) rfl,xk B58 [2,2,1,2,2,2,2] .lp rfl,hh_58_6,hc_58_6]
 (try simp only [NM,EE] at b)
 rw [b _ (by simp (disch:=first|apply D;decide|apply K;kernel_rfl) only [W,simprocAttr,hh_58_6,hc_58_6])]
 clear b
 cases o1 with
 | o0 _ _ _ _ _ =>
  (try dsimp only at a)
  cases a
 | o1 h i j l m o =>
  (try dsimp only at a)
  have hJ:=f58_j3_ok k h i j l m o _ a
  simp (disch:=first|apply D;decide|apply K;kernel_rfl) only [W,simprocAttr,R58_l2.st]
  try simp only [NM,EE] at hJ
  exact hJ
noncomputable def f58_e (k:Nat) (a:List Int) (b:Int):Option R58 :=
 cond ((b==32))
  (f58_j1 k a 4294967295 2197175160)
  (f58_j4 k a 65535 33800 false)
theorem f58_e_ok (k b d r) (a:f58_e k b d=some r):finK Tryd.prog Tryd.f58 0 (EX 58 k (nav B58 []) (⟨43,[(0,jB b),(1,jI d)],[]⟩:St))=some r.st:=by
 unfold f58_e at a
 simp (disch:=first|apply D;decide|apply K;kernel_rfl) only [W,simprocAttr,xk B58 [] .sq rfl,rg B58 [1] 0 false rfl,hr 58 0 rfl,xk B58 [2] .sq rfl,rg B58 [1,2] 1 false rfl,hr 58 1 rfl,xk B58 [2,2] .sq rfl,xk B58 [1,2,2] .sq rfl,rg B58 [1,1,2,2] 2 false rfl,hr 58 2 rfl,xk B58 [2,1,2,2] (.cd 11) rfl]
 rcases cond_some a with ⟨c,a⟩ | ⟨c,a⟩
 ·have hJ:=f58_j1_ok k b 4294967295 2197175160 _ a
  simp (disch:=first|apply D;decide|apply K;kernel_rfl) only [W,simprocAttr,rg B58 [2,2,1,2,2] 3 false rfl,hr 58 3 rfl,c]
  try simp only [NM,EE] at hJ
  exact hJ
 ·have hJ:=f58_j4_ok k b 65535 33800 false _ a
  simp (disch:=first|apply D;decide|apply K;kernel_rfl) only [W,simprocAttr,xk B58 [3,2,1,2,2] .sk rfl,c]
  try simp only [NM,EE] at hJ
  exact hJ
noncomputable def f58 (k:Nat) (a:List Int) (b:Int):Option R58:=match k with | 0=>none | k+1=>f58_e k a b
theorem f58_ok (k a b r) (d:f58 k a b=some r):CV k 58 [jB a,jI b] []=some r.st:=by
 cases k with
 | zero=>cases d
 | succ k =>
  unfold CV
  rw [ev_call (F:=Tryd.f58) (c:=(nav B58 [])) rfl Tryd.func58 rfl rfl rfl rfl]
  exact f58_e_ok k a b r d
-- f40a: f40 heliograph/heliographref01.Both
inductive R40a where
 | o0 (y:List Int)
noncomputable def R40a.st:R40a→V×List O×List O
 | .o0 y=>(.own 2000000,[],[.row true 1 5 (rowsOf (encI .u8) y)])
inductive R40a_l1 where
 | o0 (y:List Int) (a:Int) (b c:List Int)
 | o1 (y:List Int) (a:Int) (b:Bool) (c d:List Int)
noncomputable def R40a_l1.st:R40a_l1→Out×St
 | .o0 y a b c=>(.norm,(⟨41,[(0,jB y),(1,.own 30000),(5,.own 26),(6,jI a)],[(30000,.row true 1 5 (rowsOf (encI .u8) b)),(26,.row true 1 5 (rowsOf (encI .u8) c))]⟩:St))
 | .o1 y a b c d=>(.exit 0,(⟨41,[(0,jB y),(1,.own 30000),(5,.own 30001),(6,jI a),(17,jT b)],[(30000,.row true 1 5 (rowsOf (encI .u8) c)),(30001,.row true 1 5 (rowsOf (encI .u8) d))]⟩:St))
noncomputable def f40a_l1_j2 (k:Nat) (c:List Int) (d:Int) (a b:List Int):Option R40a_l1 :=
 some (.o0 c (IntKind.i64.wrap (d+(1:Int))) a b)
theorem f40a_l1_j2_ok (k c d a b r) (e:f40a_l1_j2 k c d a b=some r):EX 40 k (nav B40 [2,2,1,2,2,1,2,2]) (⟨41,[(0,jB c),(1,.own 30000),(5,.own 26),(6,jI d)],[(30000,.row true 1 5 (rowsOf (encI .u8) a)),(26,.row true 1 5 (rowsOf (encI .u8) b))]⟩:St)=some r.st:=by
 unfold f40a_l1_j2 at e
 cases e
 simp (disch:=first|apply D;decide|apply K;kernel_rfl) only [W,simprocAttr,rg B40 [2,2,1,2,2,1,2,2] 4 false rfl,hr 40 4 rfl,R40a_l1.st]
noncomputable def f40a_l1_j1 (k:Nat) (d:List Int) (b:Int) (e:Bool) (c a:List Int):Option R40a_l1 :=
 ifE ((0:Int)≤b) (
  Option.bind (d[(Int.toNat b)]?) fun f =>
   ifE (((List.length a)+1)≤roomy) (
    f40a_l1_j2 k d b c (a++([f]:List Int))))
theorem f40a_l1_j1_ok (k f g d b c r) (a:f40a_l1_j1 k f g d b c=some r):EX 40 k (nav B40 [2,1,2,2,1,2,2]) (⟨41,[(0,jB f),(1,.own 30000),(5,.own 30001),(6,jI g),(17,jT d)],[(30000,.row true 1 5 (rowsOf (encI .u8) b)),(30001,.row true 1 5 (rowsOf (encI .u8) c))]⟩:St)=some r.st:=by
 unfold f40a_l1_j1 at a
 obtain ⟨h,a⟩:=ifE_some.1 a
 obtain ⟨e,i,a⟩:=bs a
 have j:[[.p (.int .u8 e)]]=rowsOf (encI .u8) ([e]:List Int):=rfl
 have l:List.map (tell [0]) (rowsOf (encI .u8) ([e]:List Int))=rowsOf (encI .u8) ([e]:List Int):=rfl
 obtain ⟨m,a⟩:=ifE_some.1 a
 have hJ:=f40a_l1_j2_ok k f g b (c++([e]:List Int)) _ a
 simp (disch:=first|apply D;decide|apply K;kernel_rfl) only [W,simprocAttr,xk B40 [2,1,2,2,1,2,2] .sq rfl,xk B40 [1,2,1,2,2,1,2,2] (.bk 1) rfl,rg B40 [2,1,2,1,2,2,1,2,2] 5 false rfl,hr 40 5 rfl,indexAddrV,t_22,t_5,encI_eq,buildSliceV,fillRows,sm_5,appendV,content,h,i,j,l,m]
 try simp only [NM,EE] at hJ
 exact hJ
noncomputable def f40a_l1_b (k:Nat) (c:List Int) (d:Int) (a b:List Int):Option R40a_l1 :=
 cond ((decide (d<((List.length c):Int))))
  (f40a_l1_j1 k c d true a b)
  (some (.o1 c d false a b))
theorem f40a_l1_b_ok (k d e a b r) (c:f40a_l1_b k d e a b=some r):EX 40 k (nav B40 [1,2,2,1,2,2]) (⟨41,[(0,jB d),(1,.own 30000),(5,.own 30001),(6,jI e)],[(30000,.row true 1 5 (rowsOf (encI .u8) a)),(30001,.row true 1 5 (rowsOf (encI .u8) b))]⟩:St)=some r.st:=by
 unfold f40a_l1_b at c
 simp (disch:=first|apply D;decide|apply K;kernel_rfl) only [W,simprocAttr,xk B40 [1,2,2,1,2,2] .sq rfl,xk B40 [1,1,2,2,1,2,2] .sq rfl,rg B40 [1,1,1,2,2,1,2,2] 3 false rfl,hr 40 3 rfl,t_22,xk B40 [2,1,1,2,2,1,2,2] (.cd 17) rfl]
 rcases cond_some c with ⟨f,c⟩ | ⟨f,c⟩
 ·have hJ:=f40a_l1_j1_ok k d e true a b _ c
  simp (disch:=first|apply D;decide|apply K;kernel_rfl) only [W,simprocAttr,xk B40 [2,2,1,1,2,2,1,2,2] .sk rfl,f]
  try simp only [NM,EE] at hJ
  exact hJ
 ·cases c
  simp (disch:=first|apply D;decide|apply K;kernel_rfl) only [W,simprocAttr,xk B40 [3,2,1,1,2,2,1,2,2] (.ex 0) rfl,R40a_l1.st,f]
noncomputable def f40a_l1 (k:Nat):Nat→(List Int)→Int→(List Int)→(List Int)→Option R40a_l1
 | 0,_,_,_,_=>none
 | n+1,g,h,d,e=>Option.bind (f40a_l1_b k g h d e) fun o =>
  match o with
  | .o0 y a b c=>f40a_l1 k n y a b c
  | .o1 y a b c f=>some (.o1 y a b c f)
theorem f40a_l1_ok (k n:Nat):∀ (d:List Int) (e:Int) (a b:List Int) (r:R40a_l1) (c:f40a_l1 k n d e a b=some r) (σ:St) (hσ:headR (hints.head 40 3) (hints.canon 40 3) σ=some (⟨41,[(0,jB d),(1,.own 30000),(5,.own 30001),(6,jI e)],[(30000,.row true 1 5 (rowsOf (encI .u8) a)),(30001,.row true 1 5 (rowsOf (encI .u8) b))]⟩:St)),LP 40 k (nav B40 [1,2,2,1,2,2]) n σ=some r.st:=by
 induction n with
 | zero=>intro d e a b r c;cases c
 | succ n j =>
  intro d e a b r c σ hσ
  rw [f40a_l1] at c
  obtain ⟨o,h,c⟩:=Option.bind_eq_some_iff.1 c
  have hB:=f40a_l1_b_ok k d e a b o h
  unfold LP at j ⊢
  unfold EX at hB
  rw [loopK_succ,show firstReg (nav B40 [1,2,2,1,2,2])=3 from rfl,hσ,headK_some,hB]
  cases o with
  | o0 y f g i =>
   refine j y f g i r c _ ?_
   simp (disch:=first|apply D;decide|apply K;kernel_rfl) only [W,simprocAttr,hh_40_3,hc_40_3]
  | o1 y f g i l=>cases c;rfl
inductive R40a_l3 where
 | o0 (y:Int) (a b:List Int)
 | o1 (y:Int) (a:Bool) (b c:List Int)
noncomputable def R40a_l3.st:R40a_l3→Out×St
 | .o0 y a b=>(.norm,(⟨41,[(1,.own 30000),(5,.own 39),(7,jI y)],[(30000,.row true 1 5 (rowsOf (encI .u8) a)),(39,.row true 1 5 (rowsOf (encI .u8) b))]⟩:St))
 | .o1 y a b c=>(.exit 2,(⟨41,[(1,.own 30000),(5,.own 30001),(7,jI y),(30,jT a)],[(30000,.row true 1 5 (rowsOf (encI .u8) b)),(30001,.row true 1 5 (rowsOf (encI .u8) c))]⟩:St))
noncomputable def f40a_l3_j2 (k:Nat) (c:Int) (a b:List Int):Option R40a_l3 :=
 some (.o0 (IntKind.i64.wrap (c+(1:Int))) a b)
theorem f40a_l3_j2_ok (k c a b r) (d:f40a_l3_j2 k c a b=some r):EX 40 k (nav B40 [2,2,1,2,2,1,2,2,2]) (⟨41,[(1,.own 30000),(5,.own 39),(7,jI c)],[(30000,.row true 1 5 (rowsOf (encI .u8) a)),(39,.row true 1 5 (rowsOf (encI .u8) b))]⟩:St)=some r.st:=by
 unfold f40a_l3_j2 at d
 cases d
 simp (disch:=first|apply D;decide|apply K;kernel_rfl) only [W,simprocAttr,rg B40 [2,2,1,2,2,1,2,2,2] 8 false rfl,hr 40 8 rfl,R40a_l3.st]
noncomputable def f40a_l3_j1 (k:Nat) (c:Int) (d:Bool) (a b:List Int):Option R40a_l3 :=
 ifE ((0:Int)≤c) (
  ifE (c<((List.length a):Int)) (
   Option.bind (a[(Int.toNat c)]?) fun e =>
    ifE (((List.length b)+1)≤roomy) (
     f40a_l3_j2 k c a (b++([e]:List Int)))))
theorem f40a_l3_j1_ok (k f d b c r) (a:f40a_l3_j1 k f d b c=some r):EX 40 k (nav B40 [2,1,2,2,1,2,2,2]) (⟨41,[(1,.own 30000),(5,.own 30001),(7,jI f),(30,jT d)],[(30000,.row true 1 5 (rowsOf (encI .u8) b)),(30001,.row true 1 5 (rowsOf (encI .u8) c))]⟩:St)=some r.st:=by
 unfold f40a_l3_j1 at a
 obtain ⟨g,a⟩:=ifE_some.1 a
 obtain ⟨h,a⟩:=ifE_some.1 a
 obtain ⟨e,i,a⟩:=bs a
 have j:[[.p (.int .u8 e)]]=rowsOf (encI .u8) ([e]:List Int):=rfl
 have l:List.map (tell [0]) (rowsOf (encI .u8) ([e]:List Int))=rowsOf (encI .u8) ([e]:List Int):=rfl
 obtain ⟨m,a⟩:=ifE_some.1 a
 have hJ:=f40a_l3_j2_ok k f b (c++([e]:List Int)) _ a
 simp (disch:=first|apply D;decide|apply K;kernel_rfl) only [W,simprocAttr,xk B40 [2,1,2,2,1,2,2,2] .sq rfl,xk B40 [1,2,1,2,2,1,2,2,2] (.bk 3) rfl,rg B40 [2,1,2,1,2,2,1,2,2,2] 9 false rfl,hr 40 9 rfl,indexAddrV,t_22,t_5,encI_eq,buildSliceV,fillRows,sm_5,appendV,content,g,h,i,j,l,m]
 try simp only [NM,EE] at hJ
 exact hJ
noncomputable def f40a_l3_b (k:Nat) (c:Int) (a b:List Int):Option R40a_l3 :=
 cond ((decide (c<((List.length a):Int))))
  (f40a_l3_j1 k c true a b)
  (some (.o1 c false a b))
theorem f40a_l3_b_ok (k d a b r) (c:f40a_l3_b k d a b=some r):EX 40 k (nav B40 [1,2,2,1,2,2,2]) (⟨41,[(1,.own 30000),(5,.own 30001),(7,jI d)],[(30000,.row true 1 5 (rowsOf (encI .u8) a)),(30001,.row true 1 5 (rowsOf (encI .u8) b))]⟩:St)=some r.st:=by
 unfold f40a_l3_b at c
 simp (disch:=first|apply D;decide|apply K;kernel_rfl) only [W,simprocAttr,xk B40 [1,2,2,1,2,2,2] .sq rfl,xk B40 [1,1,2,2,1,2,2,2] .sq rfl,rg B40 [1,1,1,2,2,1,2,2,2] 7 false rfl,hr 40 7 rfl,t_22,xk B40 [2,1,1,2,2,1,2,2,2] (.cd 30) rfl]
 rcases cond_some c with ⟨e,c⟩ | ⟨e,c⟩
 ·have hJ:=f40a_l3_j1_ok k d true a b _ c
  simp (disch:=first|apply D;decide|apply K;kernel_rfl) only [W,simprocAttr,xk B40 [2,2,1,1,2,2,1,2,2,2] .sk rfl,e]
  try simp only [NM,EE] at hJ
  exact hJ
 ·cases c
  simp (disch:=first|apply D;decide|apply K;kernel_rfl) only [W,simprocAttr,xk B40 [3,2,1,1,2,2,1,2,2,2] (.ex 2) rfl,R40a_l3.st,e]
noncomputable def f40a_l3 (k:Nat):Nat→Int→(List Int)→(List Int)→Option R40a_l3
 | 0,_,_,_=>none
 | n+1,f,c,d=>Option.bind (f40a_l3_b k f c d) fun o =>
  match o with
  | .o0 y a b=>f40a_l3 k n y a b
  | .o1 y a b e=>some (.o1 y a b e)
theorem f40a_l3_ok (k n:Nat):∀ (d:Int) (a b:List Int) (r:R40a_l3) (c:f40a_l3 k n d a b=some r) (σ:St) (hσ:headR (hints.head 40 7) (hints.canon 40 7) σ=some (⟨41,[(1,.own 30000),(5,.own 30001),(7,jI d)],[(30000,.row true 1 5 (rowsOf (encI .u8) a)),(30001,.row true 1 5 (rowsOf (encI .u8) b))]⟩:St)),LP 40 k (nav B40 [1,2,2,1,2,2,2]) n σ=some r.st:=by
 induction n with
 | zero=>intro d a b r c;cases c
 | succ n g =>
  intro d a b r c σ hσ
  rw [f40a_l3] at c
  obtain ⟨o,h,c⟩:=Option.bind_eq_some_iff.1 c
  have hB:=f40a_l3_b_ok k d a b o h
  unfold LP at g ⊢
  unfold EX at hB
  rw [loopK_succ,show firstReg (nav B40 [1,2,2,1,2,2,2])=7 from rfl,hσ,headK_some,hB]
  cases o with
  | o0 y e f =>
   refine g y e f r c _ ?_
   simp (disch:=first|apply D;decide|apply K;kernel_rfl) only [W,simprocAttr,hh_40_7,hc_40_7]
  | o1 y e f i=>cases c;rfl
noncomputable def f40a_j4 (k:Nat) (d:Int) (b:Bool) (c a:List Int):Option R40a :=
 some (.o0 a)
theorem f40a_j4_ok (k d a b c r) (e:f40a_j4 k d a b c=some r):finK Tryd.prog Tryd.f40 0 (EX 40 k (nav B40 [2,2,2,2]) (⟨41,[(1,.own 30000),(5,.own 30001),(7,jI d),(30,jT a)],[(30000,.row true 1 5 (rowsOf (encI .u8) b)),(30001,.row true 1 5 (rowsOf (encI .u8) c))]⟩:St))=some r.st:=by
 unfold f40a_j4 at e
 cases e
 simp (disch:=first|apply D;decide|apply K;kernel_rfl) only [W,simprocAttr,xk B40 [2,2,2,2] .sq rfl,rg B40 [1,2,2,2,2] 10 false rfl,hr 40 10 rfl,xk B40 [2,2,2,2,2] .rt rfl,fin40,R40a.st]
noncomputable def f40a_j2 (k:Nat) (h:List Int) (i:Int) (c:Bool) (a b:List Int):Option R40a :=
 Option.bind (f40a_l3 k k 0 a b) fun o1 =>
  match o1 with
  | .o0 _ _ _ =>
   none
  | .o1 d e f g =>
   f40a_j4 k d e f g
theorem f40a_j2_ok (k f g e a b r) (c:f40a_j2 k f g e a b=some r):finK Tryd.prog Tryd.f40 0 (EX 40 k (nav B40 [2,2,2]) (⟨41,[(0,jB f),(1,.own 30000),(5,.own 30001),(6,jI g),(17,jT e)],[(30000,.row true 1 5 (rowsOf (encI .u8) a)),(30001,.row true 1 5 (rowsOf (encI .u8) b))]⟩:St))=some r.st:=by
 unfold f40a_j2 at c
 obtain ⟨o1,h,c⟩:=bs c
 have d:=f40a_l3_ok k k 0 a b _ h
 simp (disch:=first|apply D;decide|apply K;kernel_rfl) only [W,simprocAttr,xk B40 [2,2,2] .sq rfl,xk B40 [1,2,2,2] .sq rfl,rg B40 [1,1,2,2,2] 6 false rfl,hr 40 6 rfl,xk B40 [2,1,2,2,2] (.bk 2) rfl,xk B40 [2,2,1,2,2,2] .lp rfl,hh_40_7,hc_40_7]
 (try simp only [NM,EE] at d)
 rw [d _ (by simp (disch:=first|apply D;decide|apply K;kernel_rfl) only [W,simprocAttr,hh_40_7,hc_40_7])]
 clear d
 cases o1 with
 | o0 _ _ _ =>
  (try dsimp only at c)
  cases c
 | o1 i j l m =>
  (try dsimp only at c)
  have hJ:=f40a_j4_ok k i j l m _ c
  simp (disch:=first|apply D;decide|apply K;kernel_rfl) only [W,simprocAttr,R40a_l3.st]
  try simp only [NM,EE] at hJ
  exact hJ
noncomputable def f40a_e (k:Nat) (a:List Int):Option R40a :=
 ifE ((0:Int)≤(IntKind.i64.wrap (((List.length a):Int)+(0:Int)))) (
  ifE (((IntKind.i64.wrap (((List.length a):Int)+(0:Int))):Int) * 1≤(roomy:Int)) (
   Option.bind (f40a_l1 k k a 0 [] []) fun o3 =>
    match o3 with
    | .o0 _ _ _ _ =>
     none
    | .o1 c d e f b =>
     f40a_j2 k c d e f b))
theorem f40a_e_ok (k c r) (a:f40a_e k c=some r):finK Tryd.prog Tryd.f40 0 (EX 40 k (nav B40 []) (⟨41,[(0,jB c),(1,V.nil)],[]⟩:St))=some r.st:=by
 unfold f40a_e at a
 obtain ⟨d,a⟩:=ifE_some.1 a
 obtain ⟨e,a⟩:=ifE_some.1 a
 obtain ⟨o3,g,a⟩:=bs a
 have b:=f40a_l1_ok k k c 0 [] [] _ g
 simp (disch:=first|apply D;decide|apply K;kernel_rfl) only [W,simprocAttr,xk B40 [] .sq rfl,rg B40 [1] 0 false rfl,hr_40_0,xk B40 [2] .sq rfl,rg B40 [1,2] 1 false rfl,hr 40 1 rfl,t_22,makeV,intArg,sm_5,t_5,List.replicate_zero,xk B40 [2,2] .sq rfl,xk B40 [1,2,2] .sq rfl,rg B40 [1,1,2,2] 2 false rfl,hr 40 2 rfl,xk B40 [2,1,2,2] (.bk 0) rfl,xk B40 [2,2,1,2,2] .lp rfl,hh_40_3,hc_40_3,d,e]
 (try simp only [NM,EE] at b)
 rw [b _ (by simp (disch:=first|apply D;decide|apply K;kernel_rfl) only [W,simprocAttr,hh_40_3,hc_40_3,d,e])]
 clear b
 cases o3 with
 | o0 _ _ _ _ =>
  (try dsimp only at a)
  cases a
 | o1 h i j l f =>
  (try dsimp only at a)
  have hJ:=f40a_j2_ok k h i j l f _ a
  simp (disch:=first|apply D;decide|apply K;kernel_rfl) only [W,simprocAttr,R40a_l1.st,d,e]
  try simp only [NM,EE] at hJ
  exact hJ
noncomputable def f40a (k:Nat) (a:List Int):Option R40a:=match k with | 0=>none | k+1=>f40a_e k a
theorem f40a_ok (k a r) (b:f40a k a=some r):CV k 40 [jB a,V.nil] []=some r.st:=by
 cases k with
 | zero=>cases b
 | succ k =>
  unfold CV
  rw [ev_call (F:=Tryd.f40) (c:=(nav B40 [])) rfl Tryd.func40 rfl rfl rfl rfl]
  exact f40a_e_ok k a r b
-- f41: f41 heliograph/heliographref03.Seal
inductive R41 where
 | o0 (y:List Int)
noncomputable def R41.st:R41→V×List O×List O
 | .o0 y=>(.own 2000000,[],[.row true 1 5 (rowsOf (encI .u8) y)])
inductive R41_l1 where
 | o0 (y a b:Int) (c:List Int)
 | o1 (y a b:Int) (c:Bool) (d:List Int)
noncomputable def R41_l1.st:R41_l1→Out×St
 | .o0 y a b c=>(.norm,(⟨27,[(1,jI y),(5,jL a),(6,.own 23),(7,jI b)],[(23,.row true 1 5 (rowsOf (encI .u8) c))]⟩:St))
 | .o1 y a b c d=>(.exit 0,(⟨27,[(1,jI y),(5,jL a),(6,.own 30000),(7,jI b),(15,jT c)],[(30000,.row true 1 5 (rowsOf (encI .u8) d))]⟩:St))
noncomputable def f41_l1_j2 (k:Nat) (b c d:Int) (a:List Int):Option R41_l1 :=
 some (.o0 b c (IntKind.i64.wrap (d+(8:Int))) a)
theorem f41_l1_j2_ok (k b c d a r) (e:f41_l1_j2 k b c d a=some r):EX 41 k (nav B41 [2,2,1,2,2,1,2,2,2]) (⟨27,[(1,jI b),(5,jL c),(6,.own 23),(7,jI d)],[(23,.row true 1 5 (rowsOf (encI .u8) a))]⟩:St)=some r.st:=by
 unfold f41_l1_j2 at e
 cases e
 simp (disch:=first|apply D;decide|apply K;kernel_rfl) only [W,simprocAttr,rg B41 [2,2,1,2,2,1,2,2,2] 5 false rfl,hr 41 5 rfl,R41_l1.st]
noncomputable def f41_l1_j1 (k:Nat) (c b d:Int) (e:Bool) (a:List Int):Option R41_l1 :=
 ifE (((List.length a)+1)≤roomy) (
  f41_l1_j2 k c (IntKind.u64.wrap (Int.tdiv b (256:Int))) d (a++([(IntKind.u8.wrap (Int.tmod b (256:Int)))]:List Int)))
theorem f41_l1_j1_ok (k e a f c b r) (d:f41_l1_j1 k e a f c b=some r):EX 41 k (nav B41 [2,1,2,2,1,2,2,2]) (⟨27,[(1,jI e),(5,jL a),(6,.own 30000),(7,jI f),(15,jT c)],[(30000,.row true 1 5 (rowsOf (encI .u8) b))]⟩:St)=some r.st:=by
 unfold f41_l1_j1 at d
 have g:[[.p (.int .u8 (IntKind.u8.wrap (Int.tmod a (256:Int))))]]=rowsOf (encI .u8) ([(IntKind.u8.wrap (Int.tmod a (256:Int)))]:List Int):=rfl
 have h:List.map (tell [0]) (rowsOf (encI .u8) ([(IntKind.u8.wrap (Int.tmod a (256:Int)))]:List Int))=rowsOf (encI .u8) ([(IntKind.u8.wrap (Int.tmod a (256:Int)))]:List Int):=rfl
 obtain ⟨i,d⟩:=ifE_some.1 d
 have hJ:=f41_l1_j2_ok k e (IntKind.u64.wrap (Int.tdiv a (256:Int))) f (b++([(IntKind.u8.wrap (Int.tmod a (256:Int)))]:List Int)) _ d
 simp (disch:=first|apply D;decide|apply K;kernel_rfl) only [W,simprocAttr,xk B41 [2,1,2,2,1,2,2,2] .sq rfl,xk B41 [1,2,1,2,2,1,2,2,2] (.bk 1) rfl,xk B41 [2,1,2,1,2,2,1,2,2,2] .sq rfl,rg B41 [1,2,1,2,1,2,2,1,2,2,2] 6 false rfl,hr 41 6 rfl,t_47,t_5,convV,buildSliceV,fillRows,sm_5,t_22,appendV,content,rg B41 [2,2,1,2,1,2,2,1,2,2,2] 7 false rfl,hr 41 7 rfl,g,h,i]
 try simp only [NM,EE] at hJ
 exact hJ
noncomputable def f41_l1_b (k:Nat) (b d c:Int) (a:List Int):Option R41_l1 :=
 cond ((decide (c<b)))
  (f41_l1_j1 k b d c true a)
  (some (.o1 b d c false a))
theorem f41_l1_b_ok (k c d e a r) (b:f41_l1_b k c d e a=some r):EX 41 k (nav B41 [1,2,2,1,2,2,2]) (⟨27,[(1,jI c),(5,jL d),(6,.own 30000),(7,jI e)],[(30000,.row true 1 5 (rowsOf (encI .u8) a))]⟩:St)=some r.st:=by
 unfold f41_l1_b at b
 simp (disch:=first|apply D;decide|apply K;kernel_rfl) only [W,simprocAttr,xk B41 [1,2,2,1,2,2,2] .sq rfl,xk B41 [1,1,2,2,1,2,2,2] .sq rfl,rg B41 [1,1,1,2,2,1,2,2,2] 4 false rfl,hr 41 4 rfl,xk B41 [2,1,1,2,2,1,2,2,2] (.cd 15) rfl]
 rcases cond_some b with ⟨f,b⟩ | ⟨f,b⟩
 ·have hJ:=f41_l1_j1_ok k c d e true a _ b
  simp (disch:=first|apply D;decide|apply K;kernel_rfl) only [W,simprocAttr,xk B41 [2,2,1,1,2,2,1,2,2,2] .sk rfl,f]
  try simp only [NM,EE] at hJ
  exact hJ
 ·cases b
  simp (disch:=first|apply D;decide|apply K;kernel_rfl) only [W,simprocAttr,xk B41 [3,2,1,1,2,2,1,2,2,2] (.ex 0) rfl,R41_l1.st,f]
noncomputable def f41_l1 (k:Nat):Nat→Int→Int→Int→(List Int)→Option R41_l1
 | 0,_,_,_,_=>none
 | n+1,f,g,h,d=>Option.bind (f41_l1_b k f g h d) fun o =>
  match o with
  | .o0 y a b c=>f41_l1 k n y a b c
  | .o1 y a b c e=>some (.o1 y a b c e)
theorem f41_l1_ok (k n:Nat):∀ (c d e:Int) (a:List Int) (r:R41_l1) (b:f41_l1 k n c d e a=some r) (σ:St) (hσ:headR (hints.head 41 4) (hints.canon 41 4) σ=some (⟨27,[(1,jI c),(5,jL d),(6,.own 30000),(7,jI e)],[(30000,.row true 1 5 (rowsOf (encI .u8) a))]⟩:St)),LP 41 k (nav B41 [1,2,2,1,2,2,2]) n σ=some r.st:=by
 induction n with
 | zero=>intro c d e a r b;cases b
 | succ n j =>
  intro c d e a r b σ hσ
  rw [f41_l1] at b
  obtain ⟨o,h,b⟩:=Option.bind_eq_some_iff.1 b
  have hB:=f41_l1_b_ok k c d e a o h
  unfold LP at j ⊢
  unfold EX at hB
  rw [loopK_succ,show firstReg (nav B41 [1,2,2,1,2,2,2])=4 from rfl,hσ,headK_some,hB]
  cases o with
  | o0 y f g i =>
   refine j y f g i r b _ ?_
   simp (disch:=first|apply D;decide|apply K;kernel_rfl) only [W,simprocAttr,hh_41_4,hc_41_4]
  | o1 y f g i l=>cases b;rfl
noncomputable def f41_j2 (k:Nat) (c d e:Int) (b:Bool) (a:List Int):Option R41 :=
 some (.o0 a)
theorem f41_j2_ok (k c d e a b r) (f:f41_j2 k c d e a b=some r):finK Tryd.prog Tryd.f41 0 (EX 41 k (nav B41 [2,2,2,2]) (⟨27,[(1,jI c),(5,jL d),(6,.own 30000),(7,jI e),(15,jT a)],[(30000,.row true 1 5 (rowsOf (encI .u8) b))]⟩:St))=some r.st:=by
 unfold f41_j2 at f
 cases f
 simp (disch:=first|apply D;decide|apply K;kernel_rfl) only [W,simprocAttr,xk B41 [2,2,2,2] .sq rfl,rg B41 [1,2,2,2,2] 8 false rfl,hr 41 8 rfl,xk B41 [2,2,2,2,2] .rt rfl,fin41,R41.st]
noncomputable def f41_e (k:Nat) (f:List Int) (g:Int):Option R41 :=
 Option.bind (f58 k f g) fun o1 =>
  match o1 with
  | .o0 h =>
   Option.bind (f40a k f) fun o5 =>
    match o5 with
    | .o0 i =>
     Option.bind (f41_l1 k k g h 0 i) fun o9 =>
      match o9 with
      | .o0 _ _ _ _ =>
       none
      | .o1 a b c d e =>
       f41_j2 k a b c d e
theorem f41_e_ok (k e f r) (a:f41_e k e f=some r):finK Tryd.prog Tryd.f41 0 (EX 41 k (nav B41 []) (⟨27,[(0,jB e),(1,jI f)],[]⟩:St))=some r.st:=by
 unfold f41_e at a
 obtain ⟨o1,o,a⟩:=bs a
 have c:=f58_ok k e f _ o
 cases o1 with
 | o0 p =>
  (try dsimp only at a)
  (try simp only [NM,EE,R58.st] at c)
  obtain ⟨o5,q,a⟩:=bs a
  have d:=f40a_ok k e _ q
  cases o5 with
  | o0 s =>
   (try dsimp only at a)
   (try simp only [NM,EE,R40a.st] at d)
   obtain ⟨o9,g,a⟩:=bs a
   have b:=f41_l1_ok k k f p 0 s _ g
   simp (disch:=first|apply D;decide|apply K;kernel_rfl) only [W,simprocAttr,xk B41 [] .sq rfl,rg B41 [1] 0 false rfl,hr 41 0 rfl,xk B41 [2] .sq rfl,rg B41 [1,2] 1 false rfl,hr 41 1 rfl,callStep,CL,gv,List.contains,xk B41 [2,2] .sq rfl,rg B41 [1,2,2] 2 false rfl,hr 41 2 rfl,xk B41 [2,2,2] .sq rfl,xk B41 [1,2,2,2] .sq rfl,rg B41 [1,1,2,2,2] 3 false rfl,hr 41 3 rfl,xk B41 [2,1,2,2,2] (.bk 0) rfl,xk B41 [2,2,1,2,2,2] .lp rfl,hh_41_4,hc_41_4,c,d]
   (try simp only [NM,EE] at b)
   rw [b _ (by simp (disch:=first|apply D;decide|apply K;kernel_rfl) only [W,simprocAttr,hh_41_4,hc_41_4,c,d])]
   clear b
   cases o9 with
   | o0 _ _ _ _ =>
    (try dsimp only at a)
    cases a
   | o1 h i j l m =>
    (try dsimp only at a)
    have hJ:=f41_j2_ok k h i j l m _ a
    simp (disch:=first|apply D;decide|apply K;kernel_rfl) only [W,simprocAttr,R41_l1.st,c,d]
    try simp only [NM,EE] at hJ
    exact hJ
noncomputable def f41 (k:Nat) (a:List Int) (b:Int):Option R41:=match k with | 0=>none | k+1=>f41_e k a b
theorem f41_ok (k a b r) (d:f41 k a b=some r):CV k 41 [jB a,jI b] []=some r.st:=by
 cases k with
 | zero=>cases d
 | succ k =>
  unfold CV
  rw [ev_call (F:=Tryd.f41) (c:=(nav B41 [])) rfl Tryd.func41 rfl rfl rfl rfl]
  exact f41_e_ok k a b r d
-- f19: f19 heliograph/heliographref01.Same
inductive R19 where
 | o0 (y:Bool)
noncomputable def R19.st:R19→V×List O×List O
 | .o0 y=>(jT y,[],[])
inductive R19_l2 where
 | o0 (y:Bool)
 | o1 (y a:List Int) (b:Int)
 | o2 (y a:List Int) (b:Int) (c:Bool)
noncomputable def R19_l2.st:R19_l2→Out×St
 | .o0 y=>(.ret,(⟨26,[(4,jT y)],[]⟩:St))
 | .o1 y a b=>(.norm,(⟨26,[(0,jB y),(1,jB a),(5,jI b)],[]⟩:St))
 | .o2 y a b c=>(.exit 0,(⟨26,[(0,jB y),(1,jB a),(5,jI b),(14,jT c)],[]⟩:St))
noncomputable def f19_l2_j2 (k:Nat) (a b:List Int) (c:Int) (d:Bool):Option R19_l2 :=
 some (.o1 a b (IntKind.i64.wrap (c+(1:Int))))
theorem f19_l2_j2_ok (k b c d a r) (e:f19_l2_j2 k b c d a=some r):EX 19 k (nav B19 [2,2,1,2,2,1,2,2]) (⟨26,[(0,jB b),(1,jB c),(5,jI d),(25,jT a)],[]⟩:St)=some r.st:=by
 unfold f19_l2_j2 at e
 cases e
 simp (disch:=first|apply D;decide|apply K;kernel_rfl) only [W,simprocAttr,rg B19 [2,2,1,2,2,1,2,2] 5 false rfl,hr 19 5 rfl,R19_l2.st]
noncomputable def f19_l2_j1 (k:Nat) (b c:List Int) (a:Int) (d:Bool):Option R19_l2 :=
 ifE ((0:Int)≤a) (
  Option.bind (b[(Int.toNat a)]?) fun e =>
   Option.bind (c[(Int.toNat a)]?) fun f =>
    cond ((e != f))
     (some (.o0 false))
     (f19_l2_j2 k b c a false))
theorem f19_l2_j1_ok (k c d e b r) (a:f19_l2_j1 k c d e b=some r):EX 19 k (nav B19 [2,1,2,2,1,2,2]) (⟨26,[(0,jB c),(1,jB d),(5,jI e),(14,jT b)],[]⟩:St)=some r.st:=by
 unfold f19_l2_j1 at a
 obtain ⟨f,a⟩:=ifE_some.1 a
 obtain ⟨j,g,a⟩:=bs a
 obtain ⟨l,h,a⟩:=bs a
 simp (disch:=first|apply D;decide|apply K;kernel_rfl) only [W,simprocAttr,xk B19 [2,1,2,2,1,2,2] .sq rfl,xk B19 [1,2,1,2,2,1,2,2] (.bk 1) rfl,xk B19 [2,1,2,1,2,2,1,2,2] .sq rfl,rg B19 [1,2,1,2,1,2,2,1,2,2] 6 true rfl,hr 19 6 rfl,indexAddrV,t_22,t_5,encI_eq,xk B19 [2,2,1,2,1,2,2,1,2,2] (.cd 25) rfl,f,g,h]
 rcases cond_some a with ⟨i,a⟩ | ⟨i,a⟩
 ·cases a
  simp (disch:=first|apply D;decide|apply K;kernel_rfl) only [W,simprocAttr,xk B19 [2,2,2,1,2,1,2,2,1,2,2] .sq rfl,rg B19 [1,2,2,2,1,2,1,2,2,1,2,2] 7 false rfl,hr 19 7 rfl,xk B19 [2,2,2,2,1,2,1,2,2,1,2,2] .rt rfl,R19_l2.st,f,g,h,i]
 ·have hJ:=f19_l2_j2_ok k c d e false _ a
  simp (disch:=first|apply D;decide|apply K;kernel_rfl) only [W,simprocAttr,xk B19 [3,2,2,1,2,1,2,2,1,2,2] .sk rfl,f,g,h,i]
  try simp only [NM,EE] at hJ
  exact hJ
noncomputable def f19_l2_b (k:Nat) (a c:List Int) (b:Int):Option R19_l2 :=
 cond ((decide (b<((List.length a):Int))))
  (f19_l2_j1 k a c b true)
  (some (.o2 a c b false))
theorem f19_l2_b_ok (k b c d r) (a:f19_l2_b k b c d=some r):EX 19 k (nav B19 [1,2,2,1,2,2]) (⟨26,[(0,jB b),(1,jB c),(5,jI d)],[]⟩:St)=some r.st:=by
 unfold f19_l2_b at a
 simp (disch:=first|apply D;decide|apply K;kernel_rfl) only [W,simprocAttr,xk B19 [1,2,2,1,2,2] .sq rfl,xk B19 [1,1,2,2,1,2,2] .sq rfl,rg B19 [1,1,1,2,2,1,2,2] 4 false rfl,hr 19 4 rfl,t_22,xk B19 [2,1,1,2,2,1,2,2] (.cd 14) rfl]
 rcases cond_some a with ⟨e,a⟩ | ⟨e,a⟩
 ·have hJ:=f19_l2_j1_ok k b c d true _ a
  simp (disch:=first|apply D;decide|apply K;kernel_rfl) only [W,simprocAttr,xk B19 [2,2,1,1,2,2,1,2,2] .sk rfl,e]
  try simp only [NM,EE] at hJ
  exact hJ
 ·cases a
  simp (disch:=first|apply D;decide|apply K;kernel_rfl) only [W,simprocAttr,xk B19 [3,2,1,1,2,2,1,2,2] (.ex 0) rfl,R19_l2.st,e]
noncomputable def f19_l2 (k:Nat):Nat→(List Int)→(List Int)→Int→Option R19_l2
 | 0,_,_,_=>none
 | n+1,d,e,f=>Option.bind (f19_l2_b k d e f) fun o =>
  match o with
  | .o0 y=>some (.o0 y)
  | .o1 y a b=>f19_l2 k n y a b
  | .o2 y a b c=>some (.o2 y a b c)
theorem f19_l2_ok (k n:Nat):∀ (b c:List Int) (d:Int) (r:R19_l2) (a:f19_l2 k n b c d=some r) (σ:St) (hσ:headR (hints.head 19 4) (hints.canon 19 4) σ=some (⟨26,[(0,jB b),(1,jB c),(5,jI d)],[]⟩:St)),LP 19 k (nav B19 [1,2,2,1,2,2]) n σ=some r.st:=by
 induction n with
 | zero=>intro b c d r a;cases a
 | succ n g =>
  intro b c d r a σ hσ
  rw [f19_l2] at a
  obtain ⟨o,h,a⟩:=Option.bind_eq_some_iff.1 a
  have hB:=f19_l2_b_ok k b c d o h
  unfold LP at g ⊢
  unfold EX at hB
  rw [loopK_succ,show firstReg (nav B19 [1,2,2,1,2,2])=4 from rfl,hσ,headK_some,hB]
  cases o with
  | o0 y=>cases a;rfl
  | o1 y e f =>
   refine g y e f r a _ ?_
   simp (disch:=first|apply D;decide|apply K;kernel_rfl) only [W,simprocAttr,hh_19_4,hc_19_4]
  | o2 y e f i=>cases a;rfl
noncomputable def f19_j3 (k:Nat) (b c:List Int) (d:Int) (a:Bool):Option R19 :=
 some (.o0 true)
theorem f19_j3_ok (k b c d a r) (e:f19_j3 k b c d a=some r):finK Tryd.prog Tryd.f19 0 (EX 19 k (nav B19 [2,2,2]) (⟨26,[(0,jB b),(1,jB c),(5,jI d),(14,jT a)],[]⟩:St))=some r.st:=by
 unfold f19_j3 at e
 cases e
 simp (disch:=first|apply D;decide|apply K;kernel_rfl) only [W,simprocAttr,xk B19 [2,2,2] .sq rfl,rg B19 [1,2,2,2] 8 false rfl,hr 19 8 rfl,xk B19 [2,2,2,2] .rt rfl,fin19,R19.st]
noncomputable def f19_j1 (k:Nat) (a b:List Int) (c:Bool):Option R19 :=
 Option.bind (f19_l2 k k a b 0) fun o1 =>
  match o1 with
  | .o0 d =>
   some (.o0 d)
  | .o1 _ _ _ =>
   none
  | .o2 e f g h =>
   f19_j3 k e f g h
theorem f19_j1_ok (k d e c r) (a:f19_j1 k d e c=some r):finK Tryd.prog Tryd.f19 0 (EX 19 k (nav B19 [2,2]) (⟨26,[(0,jB d),(1,jB e),(10,jT c)],[]⟩:St))=some r.st:=by
 unfold f19_j1 at a
 obtain ⟨o1,f,a⟩:=bs a
 have b:=f19_l2_ok k k d e 0 _ f
 simp (disch:=first|apply D;decide|apply K;kernel_rfl) only [W,simprocAttr,xk B19 [2,2] .sq rfl,xk B19 [1,2,2] .sq rfl,rg B19 [1,1,2,2] 3 false rfl,hr 19 3 rfl,xk B19 [2,1,2,2] (.bk 0) rfl,xk B19 [2,2,1,2,2] .lp rfl,hh_19_4,hc_19_4]
 (try simp only [NM,EE] at b)
 rw [b _ (by simp (disch:=first|apply D;decide|apply K;kernel_rfl) only [W,simprocAttr,hh_19_4,hc_19_4])]
 clear b
 cases o1 with
 | o0 l =>
  (try dsimp only at a)
  cases a
  simp (disch:=first|apply D;decide|apply K;kernel_rfl) only [W,simprocAttr,R19_l2.st,fin19,R19.st]
 | o1 _ _ _ =>
  (try dsimp only at a)
  cases a
 | o2 g h i j =>
  (try dsimp only at a)
  have hJ:=f19_j3_ok k g h i j _ a
  simp (disch:=first|apply D;decide|apply K;kernel_rfl) only [W,simprocAttr,R19_l2.st]
  try simp only [NM,EE] at hJ
  exact hJ
noncomputable def f19_e (k:Nat) (a b:List Int):Option R19 :=
 cond ((((List.length a):Int) != ((List.length b):Int)))
  (some (.o0 false))
  (f19_j1 k a b false)
theorem f19_e_ok (k b c r) (a:f19_e k b c=some r):finK Tryd.prog Tryd.f19 0 (EX 19 k (nav B19 []) (⟨26,[(0,jB b),(1,jB c)],[]⟩:St))=some r.st:=by
 unfold f19_e at a
 simp (disch:=first|apply D;decide|apply K;kernel_rfl) only [W,simprocAttr,xk B19 [] .sq rfl,rg B19 [1] 0 false rfl,hr 19 0 rfl,xk B19 [2] .sq rfl,xk B19 [1,2] .sq rfl,rg B19 [1,1,2] 1 false rfl,hr 19 1 rfl,t_22,xk B19 [2,1,2] (.cd 10) rfl]
 rcases cond_some a with ⟨d,a⟩ | ⟨d,a⟩
 ·cases a
  simp (disch:=first|apply D;decide|apply K;kernel_rfl) only [W,simprocAttr,xk B19 [2,2,1,2] .sq rfl,rg B19 [1,2,2,1,2] 2 false rfl,hr 19 2 rfl,xk B19 [2,2,2,1,2] .rt rfl,fin19,R19.st,d]
 ·have hJ:=f19_j1_ok k b c false _ a
  simp (disch:=first|apply D;decide|apply K;kernel_rfl) only [W,simprocAttr,xk B19 [3,2,1,2] .sk rfl,d]
  try simp only [NM,EE] at hJ
  exact hJ
noncomputable def f19 (k:Nat) (a b:List Int):Option R19:=match k with | 0=>none | k+1=>f19_e k a b
theorem f19_ok (k a b r) (d:f19 k a b=some r):CV k 19 [jB a,jB b] []=some r.st:=by
 cases k with
 | zero=>cases d
 | succ k =>
  unfold CV
  rw [ev_call (F:=Tryd.f19) (c:=(nav B19 [])) rfl Tryd.func19 rfl rfl rfl rfl]
  exact f19_e_ok k a b r d
-- f30: f30 heliograph/heliographref03.Opens
inductive R30 where
 | o0 (y:Bool)
noncomputable def R30.st:R30→V×List O×List O
 | .o0 y=>(jT y,[],[])
noncomputable def f30_e (k:Nat) (a:List Int) (b:Int):Option R30 :=
 cond ((decide ((IntKind.i64.wrap (((List.length a):Int) - (IntKind.i64.wrap (Int.tdiv b (8:Int)))))≥0)))
  (
   ifE ((0:Int)≤(IntKind.i64.wrap (((List.length a):Int) - (IntKind.i64.wrap (Int.tdiv b (8:Int)))))) (
    ifE ((Int.toNat ((IntKind.i64.wrap (((List.length a):Int) - (IntKind.i64.wrap (Int.tdiv b (8:Int)))))))≤(List.length a)) (
     Option.bind (f41 k ((List.take ((Int.toNat ((IntKind.i64.wrap (((List.length a):Int) - (IntKind.i64.wrap (Int.tdiv b (8:Int)))))))) a)) b) fun o4 =>
      match o4 with
      | .o0 d =>
       Option.bind (f19 k d a) fun o8 =>
        match o8 with
        | .o0 c =>
         some (.o0 c))))
  (some (.o0 false))
theorem f30_e_ok (k c e r) (a:f30_e k c e=some r):finK Tryd.prog Tryd.f30 0 (EX 30 k (nav B30 []) (⟨22,[(0,jB c),(1,jI e)],[]⟩:St))=some r.st:=by
 unfold f30_e at a
 simp (disch:=first|apply D;decide|apply K;kernel_rfl) only [W,simprocAttr,xk B30 [] .sq rfl,rg B30 [1] 0 false rfl,hr 30 0 rfl,xk B30 [2] .sq rfl,rg B30 [1,2] 1 false rfl,hr 30 1 rfl,t_22,xk B30 [2,2] .sq rfl,rg B30 [1,2,2] 2 false rfl,hr 30 2 rfl]
 rcases cond_some a with ⟨f,a⟩ | ⟨f,a⟩
 ·obtain ⟨g,a⟩:=ifE_some.1 a
  obtain ⟨h,a⟩:=ifE_some.1 a
  obtain ⟨o4,i,a⟩:=bs a
  have d:=f41_ok k ((List.take ((Int.toNat ((IntKind.i64.wrap (((List.length c):Int) - (IntKind.i64.wrap (Int.tdiv e (8:Int)))))))) c)) e _ i
  cases o4 with
  | o0 j =>
   (try dsimp only at a)
   (try simp only [NM,EE,R41.st] at d)
   obtain ⟨o8,l,a⟩:=bs a
   have b:=f19_ok k j c _ l
   cases o8 with
   | o0 m =>
    (try dsimp only at a)
    (try simp only [NM,EE,R19.st] at b)
    cases a
    simp (disch:=first|apply D;decide|apply K;kernel_rfl) only [W,simprocAttr,sliceV,bound,t_22,t_5,callStep,CL,gv,List.contains,xk B30 [2,2,2] .rt rfl,fin30,R30.st,f,g,h,d,b]
 ·cases a
  simp (disch:=first|apply D;decide|apply K;kernel_rfl) only [W,simprocAttr,xk B30 [2,2,2] .rt rfl,fin30,R30.st,f]
noncomputable def f30 (k:Nat) (a:List Int) (b:Int):Option R30:=match k with | 0=>none | k+1=>f30_e k a b
theorem f30_ok (k a b r) (d:f30 k a b=some r):CV k 30 [jB a,jI b] []=some r.st:=by
 cases k with
 | zero=>cases d
 | succ k =>
  unfold CV
  rw [ev_call (F:=Tryd.f30) (c:=(nav B30 [])) rfl Tryd.func30 rfl rfl rfl rfl]
  exact f30_e_ok k a b r d
end Go.Proofs.YtbnnmplkbpgcaaaDoorV