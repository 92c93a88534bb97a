/- What the program's functions answer: plain functions,and that the interpreter answers what they do. Written by a program of this session,out of the translation. -/
import Derived.Test.YtiompmmbjpjjeaaDoorVP7
namespace Go.Proofs.YtiompmmbjpjjeaaDoorV
open Go
set_option linter.unusedVariables false
set_option linter.unusedSimpArgs false
set_option maxRecDepth 8000
set_option maxHeartbeats 4000000
-- f79: f79 heliograph/sum.sum[uint32]
inductive R79 where
 | o0 (y:Int)
noncomputable def R79.st:R79→V×List O×List O
 | .o0 y=>((jU y),[],[])
inductive R79_l1_l2 where
 | o0 (y a:Int) (b:List Int) (c d e:Int)
 | o1 (y a:Int) (b:List Int) (c d e:Int) (f:Bool)
noncomputable def R79_l1_l2.st:R79_l1_l2→Out×St
 | .o0 y a b c d e=>(.norm,(⟨36,[(1,jU y),(5,jU a),(11,jB b),(12,jI c),(13,jI d),(21,jI e)],[]⟩:St))
 | .o1 y a b c d e f=>(.exit 2,(⟨36,[(1,jU y),(5,jU a),(11,jB b),(12,jI c),(13,jI d),(21,jI e),(22,jT f)],[]⟩:St))
noncomputable def f79_l1_l2_j2 (k:Nat) (e f:Int) (a:List Int) (b c d:Int):Option R79_l1_l2 :=
 some (R79_l1_l2.o0 e f a b c (IntKind.i64.wrap (d+(1:Int))))
theorem f79_l1_l2_j2_ok (k e f a b c d r) (g:f79_l1_l2_j2 k e f a b c d=some r):EX 79 k (nav B79 [2,2,2,1,2,2,2,2,2,1,2,2,1,2,2,1,2,2]) (⟨36,[(1,jU e),(5,jU f),(11,jB a),(12,jI b),(13,jI c),(21,jI d)],[]⟩:St)=some r.st:=by
 unfold f79_l1_l2_j2 at g
 cases g
 simp only [W,simprocAttr,rg B79 [2,2,2,1,2,2,2,2,2,1,2,2,1,2,2,1,2,2] 12 false rfl,hr 79 12 rfl,R79_l1_l2.st]
noncomputable def f79_l1_l2_j3 (k:Nat) (e f:Int) (a:List Int) (b c d:Int) (g:Bool):Option R79_l1_l2 :=
 some (R79_l1_l2.o0 e f a b c (IntKind.i64.wrap (d+(1:Int))))
theorem f79_l1_l2_j3_ok (k f g a b c d e r) (h:f79_l1_l2_j3 k f g a b c d e=some r):EX 79 k (nav B79 [2,2,2,1,2,2,2,2,2,1,2,2,1,2,2,1,2,2]) (⟨36,[(1,jU f),(5,jU g),(11,jB a),(12,jI b),(13,jI c),(21,jI d),(28,jT e)],[]⟩:St)=some r.st:=by
 unfold f79_l1_l2_j3 at h
 cases h
 simp only [W,simprocAttr,rg B79 [2,2,2,1,2,2,2,2,2,1,2,2,1,2,2,1,2,2] 12 false rfl,hr 79 12 rfl,R79_l1_l2.st]
noncomputable def f79_l1_l2_j1 (k:Nat) (e f:Int) (a:List Int) (b c d:Int) (g:Bool):Option R79_l1_l2 :=
 cond (((IntKind.u32.wrap ((BitVec.ofInt (IntKind.bits .u32) f &&& BitVec.ofInt (IntKind.bits .u32) (1:Int)).toNat:Nat))==1))
  (f79_l1_l2_j2 k e ((IntKind.u32.wrap ((BitVec.ofInt (IntKind.bits .u32) (Int.fdiv f (2 ^ (min 1 (IntKind.bits .u32)))) ^^^ BitVec.ofInt (IntKind.bits .u32) e).toNat:Nat))) a b c d)
  (f79_l1_l2_j3 k e (Int.fdiv f (2 ^ (min 1 (IntKind.bits .u32)))) a b c d false)
theorem f79_l1_l2_j1_ok (k f h a b c d g r) (e:f79_l1_l2_j1 k f h a b c d g=some r):EX 79 k (nav B79 [2,2,1,2,2,2,2,2,1,2,2,1,2,2,1,2,2]) (⟨36,[(1,jU f),(5,jU h),(11,jB a),(12,jI b),(13,jI c),(21,jI d),(22,jT g)],[]⟩:St)=some r.st:=by
 unfold f79_l1_l2_j1 at e
 simp only [W,simprocAttr,xk B79 [2,2,1,2,2,2,2,2,1,2,2,1,2,2,1,2,2] .sq rfl,xk B79 [1,2,2,1,2,2,2,2,2,1,2,2,1,2,2,1,2,2] (.bk 3) rfl,sr 79 8 B79 [2,1,2,2,1,2,2,2,2,2,1,2,2,1,2,2,1,2,2] rfl rfl rfl,sr 79 9 B79 [2,2,1,2,2,1,2,2,2,2,2,1,2,2,1,2,2,1,2,2] rfl rfl rfl,shiftV,sr 79 10 B79 [2,2,2,1,2,2,1,2,2,2,2,2,1,2,2,1,2,2,1,2,2] rfl rfl rfl,xk B79 [2,2,2,2,1,2,2,1,2,2,2,2,2,1,2,2,1,2,2,1,2,2] (.cd 28) rfl]
 rcases cond_some e with ⟨i,e⟩ | ⟨i,e⟩
 ·have hJ:=f79_l1_l2_j2_ok k f ((IntKind.u32.wrap ((BitVec.ofInt (IntKind.bits .u32) (Int.fdiv h (2 ^ (min 1 (IntKind.bits .u32)))) ^^^ BitVec.ofInt (IntKind.bits .u32) f).toNat:Nat))) a b c d _ e
  simp only [W,simprocAttr,rg B79 [2,2,2,2,2,1,2,2,1,2,2,2,2,2,1,2,2,1,2,2,1,2,2] 11 false rfl,hr 79 11 rfl,i]
  try simp only [NM,EE] at hJ
  exact hJ
 ·have hJ:=f79_l1_l2_j3_ok k f (Int.fdiv h (2 ^ (min 1 (IntKind.bits .u32)))) a b c d false _ e
  simp only [W,simprocAttr,xk B79 [3,2,2,2,2,1,2,2,1,2,2,2,2,2,1,2,2,1,2,2,1,2,2] .sk rfl,i]
  try simp only [NM,EE] at hJ
  exact hJ
noncomputable def f79_l1_l2_b (k:Nat) (e f:Int) (b:List Int) (c d a:Int):Option R79_l1_l2 :=
 cond ((decide (a<8)))
  (f79_l1_l2_j1 k e f b c d a true)
  (some (R79_l1_l2.o1 e f b c d a false))
theorem f79_l1_l2_b_ok (k f g a b c d r) (e:f79_l1_l2_b k f g a b c d=some r):EX 79 k (nav B79 [1,2,2,2,2,2,1,2,2,1,2,2,1,2,2]) (⟨36,[(1,jU f),(5,jU g),(11,jB a),(12,jI b),(13,jI c),(21,jI d)],[]⟩:St)=some r.st:=by
 unfold f79_l1_l2_b at e
 simp only [W,simprocAttr,sr 79 7 B79 [1,2,2,2,2,2,1,2,2,1,2,2,1,2,2] rfl rfl rfl,xk B79 [2,1,2,2,2,2,2,1,2,2,1,2,2,1,2,2] .sq rfl,xk B79 [1,2,1,2,2,2,2,2,1,2,2,1,2,2,1,2,2] (.cd 22) rfl]
 rcases cond_some e with ⟨h,e⟩ | ⟨h,e⟩
 ·have hJ:=f79_l1_l2_j1_ok k f g a b c d true _ e
  simp only [W,simprocAttr,xk B79 [2,1,2,1,2,2,2,2,2,1,2,2,1,2,2,1,2,2] .sk rfl,h]
  try simp only [NM,EE] at hJ
  exact hJ
 ·cases e
  simp only [W,simprocAttr,xk B79 [3,1,2,1,2,2,2,2,2,1,2,2,1,2,2,1,2,2] (.ex 2) rfl,R79_l1_l2.st,h]
noncomputable def f79_l1_l2 (k:Nat):Nat→Int→Int→(List Int)→Int→Int→Int→Option R79_l1_l2
 | 0,_,_,_,_,_,_=>none
 | n+1,l,m,f,g,h,i=>Option.bind (f79_l1_l2_b k l m f g h i) fun o =>
  match o with
  | .o0 y a b c d e=>f79_l1_l2 k n y a b c d e
  | .o1 y a b c d e j=>some (.o1 y a b c d e j)
theorem f79_l1_l2_ok (k n:Nat):∀ (f g:Int) (a:List Int) (b c d:Int) (r:R79_l1_l2) (e:f79_l1_l2 k n f g a b c d=some r) (σ:St) (hσ:headR (hints.head 79 7) (hints.canon 79 7) σ=some (⟨36,[(1,jU f),(5,jU g),(11,jB a),(12,jI b),(13,jI c),(21,jI d)],[]⟩:St)),LP 79 k (nav B79 [1,2,2,2,2,2,1,2,2,1,2,2,1,2,2]) n σ=some r.st:=by
 induction n with
 | zero=>intro f g a b c d r e;cases e
 | succ n q =>
  intro f g a b c d r e σ hσ
  rw [f79_l1_l2] at e
  obtain ⟨o,h,e⟩:=Option.bind_eq_some_iff.1 e
  have hB:=f79_l1_l2_b_ok k f g a b c d o h
  unfold LP at q ⊢
  unfold EX at hB
  rw [loopK_succ,show firstReg (nav B79 [1,2,2,2,2,2,1,2,2,1,2,2,1,2,2])=7 from rfl,hσ,headK_some,hB]
  cases o with
  | o0 y i j l m p =>
   refine q y i j l m p r e _ ?_
   simp only [W,simprocAttr,hh_79_7,hc_79_7]
  | o1 y i j l m p s=>cases e;rfl
inductive R79_l1 where
 | o0 (y a:Int) (b:List Int) (c d:Int)
 | o1 (y a:Int) (b:List Int) (c d:Int) (e:Bool)
noncomputable def R79_l1.st:R79_l1→Out×St
 | .o0 y a b c d=>(.norm,(⟨36,[(1,jU y),(5,jU a),(11,jB b),(12,jI c),(13,jI d)],[]⟩:St))
 | .o1 y a b c d e=>(.exit 0,(⟨36,[(1,jU y),(5,jU a),(11,jB b),(12,jI c),(13,jI d),(14,jT e)],[]⟩:St))
noncomputable def f79_l1_j3 (k:Nat) (d e:Int) (a:List Int) (b c f:Int) (g:Bool):Option R79_l1 :=
 some (.o0 d e a b (IntKind.i64.wrap (c+(1:Int))))
theorem f79_l1_j3_ok (k f g a b c d e r) (h:f79_l1_j3 k f g a b c d e=some r):EX 79 k (nav B79 [2,2,2,1,2,2,1,2,2]) (⟨36,[(1,jU f),(5,jU g),(11,jB a),(12,jI b),(13,jI c),(21,jI d),(22,jT e)],[]⟩:St)=some r.st:=by
 unfold f79_l1_j3 at h
 cases h
 simp only [W,simprocAttr,rg B79 [2,2,2,1,2,2,1,2,2] 13 false rfl,hr 79 13 rfl,R79_l1.st]
noncomputable def f79_l1_j1 (k:Nat) (h i:Int) (b:List Int) (c a:Int) (j:Bool):Option R79_l1 :=
 ifE ((0:Int)≤a) (
  Option.bind (b[(Int.toNat a)]?) fun l =>
   Option.bind (f79_l1_l2 k k h ((IntKind.u32.wrap ((BitVec.ofInt (IntKind.bits .u32) i ^^^ BitVec.ofInt (IntKind.bits .u32) (IntKind.u32.wrap l)).toNat:Nat))) b c a 0) fun o4 =>
    match o4 with
    | .o0 _ _ _ _ _ _ =>
     none
    | .o1 m o p d e f g =>
     f79_l1_j3 k m o p d e f g)
theorem f79_l1_j1_ok (k g h b c d f r) (a:f79_l1_j1 k g h b c d f=some r):EX 79 k (nav B79 [2,2,1,2,2,1,2,2]) (⟨36,[(1,jU g),(5,jU h),(11,jB b),(12,jI c),(13,jI d),(14,jT f)],[]⟩:St)=some r.st:=by
 unfold f79_l1_j1 at a
 obtain ⟨i,a⟩:=ifE_some.1 a
 obtain ⟨q,j,a⟩:=bs a
 obtain ⟨o4,s,a⟩:=bs a
 have e:=f79_l1_l2_ok k k g ((IntKind.u32.wrap ((BitVec.ofInt (IntKind.bits .u32) h ^^^ BitVec.ofInt (IntKind.bits .u32) (IntKind.u32.wrap q)).toNat:Nat))) b c d 0 _ s
 simp only [W,simprocAttr,xk B79 [2,2,1,2,2,1,2,2] .sq rfl,xk B79 [1,2,2,1,2,2,1,2,2] (.bk 1) rfl,sr 79 4 B79 [2,1,2,2,1,2,2,1,2,2] rfl rfl rfl,indexAddrV,t_45,t_5,encI_eq,sr 79 5 B79 [2,2,1,2,2,1,2,2,1,2,2] rfl rfl rfl,t_42,convV,sr 79 6 B79 [2,2,2,1,2,2,1,2,2,1,2,2] rfl rfl rfl,xk B79 [2,2,2,2,1,2,2,1,2,2,1,2,2] (.bk 2) rfl,xk B79 [2,2,2,2,2,1,2,2,1,2,2,1,2,2] .lp rfl,hh_79_7,hc_79_7,i,j]
 (try simp only [NM,EE] at e)
 rw [e _ (by simp only [W,simprocAttr,hh_79_7,hc_79_7,i,j])]
 clear e
 cases o4 with
 | o0 _ _ _ _ _ _ =>
  (try dsimp only at a)
  cases a
 | o1 t u v l m o p =>
  (try dsimp only at a)
  have hJ:=f79_l1_j3_ok k t u v l m o p _ a
  simp only [W,simprocAttr,R79_l1_l2.st,i,j]
  try simp only [NM,EE] at hJ
  exact hJ
noncomputable def f79_l1_b (k:Nat) (d e:Int) (c:List Int) (a b:Int):Option R79_l1 :=
 cond ((decide (b<a)))
  (f79_l1_j1 k d e c a b true)
  (some (.o1 d e c a b false))
theorem f79_l1_b_ok (k e f a b c r) (d:f79_l1_b k e f a b c=some r):EX 79 k (nav B79 [1,2,2,1,2,2]) (⟨36,[(1,jU e),(5,jU f),(11,jB a),(12,jI b),(13,jI c)],[]⟩:St)=some r.st:=by
 unfold f79_l1_b at d
 simp only [W,simprocAttr,sr 79 3 B79 [1,2,2,1,2,2] rfl rfl rfl,xk B79 [2,1,2,2,1,2,2] .sq rfl,xk B79 [1,2,1,2,2,1,2,2] (.cd 14) rfl]
 rcases cond_some d with ⟨g,d⟩ | ⟨g,d⟩
 ·have hJ:=f79_l1_j1_ok k e f a b c true _ d
  simp only [W,simprocAttr,xk B79 [2,1,2,1,2,2,1,2,2] .sk rfl,g]
  try simp only [NM,EE] at hJ
  exact hJ
 ·cases d
  simp only [W,simprocAttr,xk B79 [3,1,2,1,2,2,1,2,2] (.ex 0) rfl,R79_l1.st,g]
noncomputable def f79_l1 (k:Nat):Nat→Int→Int→(List Int)→Int→Int→Option R79_l1
 | 0,_,_,_,_,_=>none
 | n+1,i,j,e,f,g=>Option.bind (f79_l1_b k i j e f g) fun o =>
  match o with
  | .o0 y a b c d=>f79_l1 k n y a b c d
  | .o1 y a b c d h=>some (.o1 y a b c d h)
theorem f79_l1_ok (k n:Nat):∀ (e f:Int) (a:List Int) (b c:Int) (r:R79_l1) (d:f79_l1 k n e f a b c=some r) (σ:St) (hσ:headR (hints.head 79 3) (hints.canon 79 3) σ=some (⟨36,[(1,jU e),(5,jU f),(11,jB a),(12,jI b),(13,jI c)],[]⟩:St)),LP 79 k (nav B79 [1,2,2,1,2,2]) n σ=some r.st:=by
 induction n with
 | zero=>intro e f a b c r d;cases d
 | succ n m =>
  intro e f a b c r d σ hσ
  rw [f79_l1] at d
  obtain ⟨o,h,d⟩:=Option.bind_eq_some_iff.1 d
  have hB:=f79_l1_b_ok k e f a b c o h
  unfold LP at m ⊢
  unfold EX at hB
  rw [loopK_succ,show firstReg (nav B79 [1,2,2,1,2,2])=3 from rfl,hσ,headK_some,hB]
  cases o with
  | o0 y g i j l =>
   refine m y g i j l r d _ ?_
   simp only [W,simprocAttr,hh_79_3,hc_79_3]
  | o1 y g i j l p=>cases d;rfl
noncomputable def f79_j2 (k:Nat) (f a:Int) (b:List Int) (c d:Int) (e:Bool):Option R79 :=
 some (.o0 (flipI .u32 a))
theorem f79_j2_ok (k e f a b c d r) (g:f79_j2 k e f a b c d=some r):finK Tryd.prog Tryd.f79 0 (EX 79 k (nav B79 [2,2,2]) (⟨36,[(1,jU e),(5,jU f),(11,jB a),(12,jI b),(13,jI c),(14,jT d)],[]⟩:St))=some r.st:=by
 unfold f79_j2 at g
 cases g
 simp only [W,simprocAttr,sr 79 14 B79 [2,2,2] rfl rfl rfl,xk B79 [2,2,2,2] .rt rfl,fin79,R79.st]
noncomputable def f79_e (k:Nat) (a:List Int) (b:Int):Option R79 :=
 Option.bind (f79_l1 k k b (flipI .u32 (IntKind.u32.wrap 0)) a ((List.length a):Int) 0) fun o1 =>
  match o1 with
  | .o0 _ _ _ _ _ =>
   none
  | .o1 c d e f g h =>
   f79_j2 k c d e f g h
theorem f79_e_ok (k c d r) (a:f79_e k c d=some r):finK Tryd.prog Tryd.f79 0 (EX 79 k (nav B79 []) (⟨36,[(0,jB c),(1,jU d)],[]⟩:St))=some r.st:=by
 unfold f79_e at a
 obtain ⟨o1,e,a⟩:=bs a
 have b:=f79_l1_ok k k d (flipI .u32 (IntKind.u32.wrap 0)) c ((List.length c):Int) 0 _ e
 simp only [W,simprocAttr,sr 79 0 B79 [] rfl rfl rfl,sr 79 1 B79 [2] rfl rfl rfl,t_3,t_42,convV,xk B79 [2,2] .sq rfl,sr 79 2 B79 [1,2,2] rfl rfl rfl,t_45,xk B79 [2,1,2,2] (.bk 0) rfl,xk B79 [2,2,1,2,2] .lp rfl,hh_79_3,hc_79_3]
 (try simp only [NM,EE] at b)
 rw [b _ (by simp only [W,simprocAttr,hh_79_3,hc_79_3])]
 clear b
 cases o1 with
 | o0 _ _ _ _ _ =>
  (try dsimp only at a)
  cases a
 | o1 f g h i j l =>
  (try dsimp only at a)
  have hJ:=f79_j2_ok k f g h i j l _ a
  simp only [W,simprocAttr,R79_l1.st]
  try simp only [NM,EE] at hJ
  exact hJ
noncomputable def f79 (k:Nat) (a:List Int) (b:Int):Option R79:=match k with | 0=>none | k+1=>f79_e k a b
theorem f79_ok (k a b r) (d:f79 k a b=some r):CV k 79 [jB a,jU b] []=some r.st:=by
 cases k with
 | zero=>cases d
 | succ k =>
  unfold CV
  rw [ev_call (F:=Tryd.f79) (c:=(nav B79 [])) rfl Tryd.func79 rfl rfl rfl rfl]
  exact f79_e_ok k a b r d
-- f73: f73 heliograph/sum.Sum32
inductive R73 where
 | o0 (y:Int)
noncomputable def R73.st:R73→V×List O×List O
 | .o0 y=>((jU y),[],[])
noncomputable def f73_e (k:Nat) (a:List Int):Option R73 :=
 Option.bind (f79 k a 2197175160) fun o1 =>
  match o1 with
  | .o0 b =>
   some (.o0 b)
theorem f73_e_ok (k c r) (a:f73_e k c=some r):finK Tryd.prog Tryd.f73 0 (EX 73 k (nav B73 []) (⟨5,[(0,jB c)],[]⟩:St))=some r.st:=by
 unfold f73_e at a
 obtain ⟨o1,d,a⟩:=bs a
 have b:=f79_ok k c 2197175160 _ d
 cases o1 with
 | o0 e =>
  (try dsimp only at a)
  (try simp only [NM,EE,R79.st] at b)
  cases a
  simp only [W,simprocAttr,sr 73 0 B73 [] rfl rfl rfl,sr 73 1 B73 [2] rfl rfl rfl,callStep,CL,gv,List.contains,xk B73 [2,2] .rt rfl,fin73,R73.st,b]
noncomputable def f73 (k:Nat) (a:List Int):Option R73:=match k with | 0=>none | k+1=>f73_e k a
theorem f73_ok (k a r) (b:f73 k a=some r):CV k 73 [jB a] []=some r.st:=by
 cases k with
 | zero=>cases b
 | succ k =>
  unfold CV
  rw [ev_call (F:=Tryd.f73) (c:=(nav B73 [])) rfl Tryd.func73 rfl rfl rfl rfl]
  exact f73_e_ok k a r b
-- f62: f62 heliograph/sum.Seal32
inductive R62 where
 | o0 (y:List Int)
noncomputable def R62.st:R62→V×List O×List O
 | .o0 y=>(.own 2000000,[],[.row true 1 5 (rowsOf (encI .u8) y)])
noncomputable def f62_e (k:Nat) (a:List Int):Option R62 :=
 Option.bind (f73 k a) fun o1 =>
  match o1 with
  | .o0 b =>
   Option.bind (f71 k a b 4) fun o5 =>
    match o5 with
    | .o0 c =>
     some (.o0 c)
theorem f62_e_ok (k d r) (a:f62_e k d=some r):finK Tryd.prog Tryd.f62 0 (EX 62 k (nav B62 []) (⟨7,[(0,jB d)],[]⟩:St))=some r.st:=by
 unfold f62_e at a
 obtain ⟨o1,e,a⟩:=bs a
 have b:=f73_ok k d _ e
 cases o1 with
 | o0 f =>
  (try dsimp only at a)
  (try simp only [NM,EE,R73.st] at b)
  obtain ⟨o5,g,a⟩:=bs a
  have c:=f71_ok k d f 4 _ g
  cases o5 with
  | o0 h =>
   (try dsimp only at a)
   (try simp only [NM,EE,R71.st] at c)
   cases a
   simp only [W,simprocAttr,sr 62 0 B62 [] rfl rfl rfl,sr 62 1 B62 [2] rfl rfl rfl,callStep,CL,gv,List.contains,xk B62 [2,2] .rt rfl,fin62,R62.st,b,c]
noncomputable def f62 (k:Nat) (a:List Int):Option R62:=match k with | 0=>none | k+1=>f62_e k a
theorem f62_ok (k a r) (b:f62 k a=some r):CV k 62 [jB a] []=some r.st:=by
 cases k with
 | zero=>cases b
 | succ k =>
  unfold CV
  rw [ev_call (F:=Tryd.f62) (c:=(nav B62 [])) rfl Tryd.func62 rfl rfl rfl rfl]
  exact f62_e_ok k a r b
-- f39: f39 heliograph/bundle.Encode
inductive R39 where
 | o0 (y:List Int) (a:Int)
 | o1 (y:Int) (a:List Int)
noncomputable def R39.st:R39→V×List O×List O
 | .o0 y a=>(V.tup [jB y,jI a],[],[])
 | .o1 y a=>(V.tup [.own 2000000,jI y],[],[.row true 1 5 (rowsOf (encI .u8) a)])
noncomputable def f39_j3 (k:Nat) (a:List Int) (b:Bool):Option R39 :=
 some (.o0 a 0)
theorem f39_j3_ok (k b a r) (c:f39_j3 k b a=some r):finK Tryd.prog Tryd.f39 0 (EX 39 k (nav B39 [2,2,2,2,2,2]) (⟨60,[(7,jB b),(58,jT a)],[]⟩:St))=some r.st:=by
 unfold f39_j3 at c
 cases c
 simp only [W,simprocAttr,sr 39 10 B39 [2,2,2,2,2,2] rfl rfl rfl,xk B39 [2,2,2,2,2,2,2] .rt rfl,fin39,R39.st]
noncomputable def f39_j4 (k:Nat) (b:Bool) (a:List Int):Option R39 :=
 some (.o1 0 a)
theorem f39_j4_ok (k a b r) (c:f39_j4 k a b=some r):finK Tryd.prog Tryd.f39 0 (EX 39 k (nav B39 [2,2,2,2,2,2]) (⟨60,[(7,.own 54),(58,jT a)],[(54,.row true 1 5 (rowsOf (encI .u8) b))]⟩:St))=some r.st:=by
 unfold f39_j4 at c
 cases c
 simp only [W,simprocAttr,sr 39 10 B39 [2,2,2,2,2,2] rfl rfl rfl,xk B39 [2,2,2,2,2,2,2] .rt rfl,fin39,R39.st]
noncomputable def f39_j2 (k:Nat) (x5:List Int) (af:Bool) (m1 y z r n aa b ab ac ad:Int) (a:List Int):Option R39 :=
 Option.bind (f60 k x5) fun o1 =>
  match o1 with
  | .o0 v4 =>
   Option.bind (f59 k v4) fun o5 =>
    match o5 with
    | .o0 v8 v9 c d =>
     Option.bind (f61 k (IntKind.u64.wrap b)) fun o12 =>
      match o12 with
      | .o0 e f g h =>
       Option.bind (f62 k a) fun o19 =>
        match o19 with
        | .o0 i =>
         Option.bind (f59 k i) fun o23 =>
          match o23 with
          | .o0 j l m o =>
           Option.bind (f58 k (([(T113.mk v8 v9 d c),(T113.mk e f g h),(T113.mk j l o m)]:List T113))) fun o32 =>
            match o32 with
            | .o0 p q s t =>
             Option.bind (f56 k p q s t) fun o39 =>
              match o39 with
              | .o0 u v =>
               cond ((v != 0))
                (some (.o0 [] 190))
                (f39_j3 k u false)
              | .o1 w x =>
               cond ((w != 0))
                (some (.o0 [] 190))
                (f39_j4 k false x)
theorem f39_j2_ok (k x5 ai m1 z n aa ab ac m ad ae af i r) (a:f39_j2 k x5 ai m1 z n aa ab ac m ad ae af i=some r):finK Tryd.prog Tryd.f39 0 (EX 39 k (nav B39 [2,2,2,2]) (⟨60,[(1,.ptr 1 0),(5,jB x5),(39,jT ai)],[(1,.box 47 [jI m1,jI z,jU n,jI aa,jI ab,jI ac,jI m,jI ad,jI ae,jI af,jB i])]⟩:St))=some r.st:=by
 unfold f39_j2 at a
 obtain ⟨o1,h2,a⟩:=bs a
 have g:=f60_ok k x5 _ h2
 cases o1 with
 | o0 v4 =>
  (try dsimp only at a)
  (try simp only [NM,EE,R60.st] at g)
  obtain ⟨o5,h6,a⟩:=bs a
  have h:=f59_ok k v4 _ h6
  cases o5 with
  | o0 v8 v9 o p =>
   (try dsimp only at a)
   (try simp only [NM,EE,R59.st] at h)
   obtain ⟨o12,am,a⟩:=bs a
   have b:=f61_ok k (IntKind.u64.wrap m) _ am
   cases o12 with
   | o0 q s t u =>
    (try dsimp only at a)
    (try simp only [NM,EE,R61.st] at b)
    obtain ⟨o19,an,a⟩:=bs a
    have c:=f62_ok k i _ an
    cases o19 with
    | o0 ao =>
     (try dsimp only at a)
     (try simp only [NM,EE,R62.st] at c)
     obtain ⟨o23,ap,a⟩:=bs a
     have d:=f59_ok k ao _ ap
     cases o23 with
     | o0 v w x y =>
      (try dsimp only at a)
      (try simp only [NM,EE,R59.st] at d)
      have j:[[jI v8,jL v9,jB p,.sl 4 (rowsOf encT113 o)],[jI q,jL s,jB t,.sl 4 (rowsOf encT113 u)],[jI v,jL w,jB y,.sl 4 (rowsOf encT113 x)]]=rowsOf encT113 ([(T113.mk v8 v9 p o),(T113.mk q s t u),(T113.mk v w y x)]:List T113):=by first | rfl | simp only [jB,rowsOf,List.map_cons,List.map_nil,encT113_eq]
      have l:List.map (tell [0,0,1,4]) (rowsOf encT113 ([(T113.mk v8 v9 p o),(T113.mk q s t u),(T113.mk v w y x)]:List T113))=rowsOf encT113 ([(T113.mk v8 v9 p o),(T113.mk q s t u),(T113.mk v w y x)]:List T113):=by first | rfl | simp only [jB,rowsOf,List.map_cons,List.map_nil,encT113_eq]
      obtain ⟨o32,aq,a⟩:=bs a
      have e:=f58_ok k (([(T113.mk v8 v9 p o),(T113.mk q s t u),(T113.mk v w y x)]:List T113)) _ aq
      cases o32 with
      | o0 ar au av aw =>
       (try dsimp only at a)
       (try simp only [NM,EE,R58.st] at e)
       simp (disch:=first|decide|apply K;kernel_rfl) only [W,simprocAttr,xk B39 [2,2,2,2] .sq rfl,rg B39 [1,2,2,2,2] 7 true rfl,hr 39 7 rfl,callStep,CL,gv,List.contains,fieldAddrV,t_47,t_3,t_110,convV,t_45,buildSliceV,fillRows,sm_113,t_111,t_113,g,h,b,c,d,j,l,e]
       obtain ⟨o39,ax,a⟩:=bs a
       have f:=f56_ok k ar au av aw _ ax
       cases o39 with
       | o0 ay a4 =>
        (try dsimp only at a)
        (try simp only [NM,EE,R56.st] at f)
        simp (disch:=first|decide|apply K;kernel_rfl) only [W,simprocAttr,xk B39 [2,2,2,2,2] .sq rfl,sr 39 8 B39 [1,2,2,2,2,2] rfl rfl rfl,xk B39 [2,1,2,2,2,2,2] (.cd 58) rfl,g,h,b,c,d,j,l,e,f]
        rcases cond_some a with ⟨ag,a⟩ | ⟨ag,a⟩
        ·cases a
         simp (disch:=first|decide|apply K;kernel_rfl) only [W,simprocAttr,xk B39 [2,2,1,2,2,2,2,2] .sq rfl,rg B39 [1,2,2,1,2,2,2,2,2] 9 false rfl,hr_39_9,xk B39 [2,2,2,1,2,2,2,2,2] .rt rfl,fin39,R39.st,g,h,b,c,d,j,l,e,f,ag]
        ·have hJ:=f39_j3_ok k ay false _ a
         simp (disch:=first|decide|apply K;kernel_rfl) only [W,simprocAttr,xk B39 [3,2,1,2,2,2,2,2] .sk rfl,g,h,b,c,d,j,l,e,f,ag]
         try simp only [NM,EE] at hJ
         exact hJ
       | o1 a5 az =>
        (try dsimp only at a)
        (try simp only [NM,EE,R56.st] at f)
        simp (disch:=first|decide|apply K;kernel_rfl) only [W,simprocAttr,xk B39 [2,2,2,2,2] .sq rfl,sr 39 8 B39 [1,2,2,2,2,2] rfl rfl rfl,xk B39 [2,1,2,2,2,2,2] (.cd 58) rfl,g,h,b,c,d,j,l,e,f]
        rcases cond_some a with ⟨ah,a⟩ | ⟨ah,a⟩
        ·cases a
         simp (disch:=first|decide|apply K;kernel_rfl) only [W,simprocAttr,xk B39 [2,2,1,2,2,2,2,2] .sq rfl,rg B39 [1,2,2,1,2,2,2,2,2] 9 false rfl,hr_39_9,xk B39 [2,2,2,1,2,2,2,2,2] .rt rfl,fin39,R39.st,g,h,b,c,d,j,l,e,f,ah]
        ·have hJ:=f39_j4_ok k false az _ a
         simp (disch:=first|decide|apply K;kernel_rfl) only [W,simprocAttr,xk B39 [3,2,1,2,2,2,2,2] .sk rfl,g,h,b,c,d,j,l,e,f,ah]
         try simp only [NM,EE] at hJ
         exact hJ
noncomputable def f39_j5 (k:Nat) (af:Bool) (m1 z r n aa ab b ac ad ae:Int) (a c:List Int):Option R39 :=
 Option.bind (f60 k c) fun o1 =>
  match o1 with
  | .o0 v4 =>
   Option.bind (f59 k v4) fun o5 =>
    match o5 with
    | .o0 v8 v9 d e =>
     Option.bind (f61 k (IntKind.u64.wrap b)) fun o12 =>
      match o12 with
      | .o0 f g h i =>
       Option.bind (f62 k a) fun o19 =>
        match o19 with
        | .o0 j =>
         Option.bind (f59 k j) fun o23 =>
          match o23 with
          | .o0 l m o p =>
           Option.bind (f58 k (([(T113.mk v8 v9 e d),(T113.mk f g h i),(T113.mk l m p o)]:List T113))) fun o32 =>
            match o32 with
            | .o0 q s t u =>
             Option.bind (f56 k q s t u) fun o39 =>
              match o39 with
              | .o0 v w =>
               cond ((w != 0))
                (some (.o0 [] 190))
                (f39_j3 k v false)
              | .o1 x y =>
               cond ((x != 0))
                (some (.o0 [] 190))
                (f39_j4 k false y)
theorem f39_j5_ok (k aj m1 z n aa ab ac m ad ae af i ag r) (a:f39_j5 k aj m1 z n aa ab ac m ad ae af i ag=some r):finK Tryd.prog Tryd.f39 0 (EX 39 k (nav B39 [2,2,2,2]) (⟨60,[(1,.ptr 1 0),(5,.own 35),(39,jT aj)],[(1,.box 47 [jI m1,jI z,jU n,jI aa,jI ab,jI ac,jI m,jI ad,jI ae,jI af,jB i]),(35,.row true 1 5 (rowsOf (encI .u8) ag))]⟩:St))=some r.st:=by
 unfold f39_j5 at a
 obtain ⟨o1,h2,a⟩:=bs a
 have g:=f60_ok k ag _ h2
 cases o1 with
 | o0 v4 =>
  (try dsimp only at a)
  (try simp only [NM,EE,R60.st] at g)
  obtain ⟨o5,h6,a⟩:=bs a
  have h:=f59_ok k v4 _ h6
  cases o5 with
  | o0 v8 v9 o p =>
   (try dsimp only at a)
   (try simp only [NM,EE,R59.st] at h)
   obtain ⟨o12,am,a⟩:=bs a
   have b:=f61_ok k (IntKind.u64.wrap m) _ am
   cases o12 with
   | o0 q s t u =>
    (try dsimp only at a)
    (try simp only [NM,EE,R61.st] at b)
    obtain ⟨o19,an,a⟩:=bs a
    have c:=f62_ok k i _ an
    cases o19 with
    | o0 ao =>
     (try dsimp only at a)
     (try simp only [NM,EE,R62.st] at c)
     obtain ⟨o23,ap,a⟩:=bs a
     have d:=f59_ok k ao _ ap
     cases o23 with
     | o0 v w x y =>
      (try dsimp only at a)
      (try simp only [NM,EE,R59.st] at d)
      have j:[[jI v8,jL v9,jB p,.sl 4 (rowsOf encT113 o)],[jI q,jL s,jB t,.sl 4 (rowsOf encT113 u)],[jI v,jL w,jB y,.sl 4 (rowsOf encT113 x)]]=rowsOf encT113 ([(T113.mk v8 v9 p o),(T113.mk q s t u),(T113.mk v w y x)]:List T113):=by first | rfl | simp only [jB,rowsOf,List.map_cons,List.map_nil,encT113_eq]
      have l:List.map (tell [0,0,1,4]) (rowsOf encT113 ([(T113.mk v8 v9 p o),(T113.mk q s t u),(T113.mk v w y x)]:List T113))=rowsOf encT113 ([(T113.mk v8 v9 p o),(T113.mk q s t u),(T113.mk v w y x)]:List T113):=by first | rfl | simp only [jB,rowsOf,List.map_cons,List.map_nil,encT113_eq]
      obtain ⟨o32,aq,a⟩:=bs a
      have e:=f58_ok k (([(T113.mk v8 v9 p o),(T113.mk q s t u),(T113.mk v w y x)]:List T113)) _ aq
      cases o32 with
      | o0 ar au av aw =>
       (try dsimp only at a)
       (try simp only [NM,EE,R58.st] at e)
       simp (disch:=first|decide|apply K;kernel_rfl) only [W,simprocAttr,xk B39 [2,2,2,2] .sq rfl,rg B39 [1,2,2,2,2] 7 true rfl,hr 39 7 rfl,callStep,CL,gv,List.contains,fieldAddrV,t_47,t_3,t_110,convV,t_45,buildSliceV,fillRows,sm_113,t_111,t_113,g,h,b,c,d,j,l,e]
       obtain ⟨o39,ax,a⟩:=bs a
       have f:=f56_ok k ar au av aw _ ax
       cases o39 with
       | o0 ay a4 =>
        (try dsimp only at a)
        (try simp only [NM,EE,R56.st] at f)
        simp (disch:=first|decide|apply K;kernel_rfl) only [W,simprocAttr,xk B39 [2,2,2,2,2] .sq rfl,sr 39 8 B39 [1,2,2,2,2,2] rfl rfl rfl,xk B39 [2,1,2,2,2,2,2] (.cd 58) rfl,g,h,b,c,d,j,l,e,f]
        rcases cond_some a with ⟨ah,a⟩ | ⟨ah,a⟩
        ·cases a
         simp (disch:=first|decide|apply K;kernel_rfl) only [W,simprocAttr,xk B39 [2,2,1,2,2,2,2,2] .sq rfl,rg B39 [1,2,2,1,2,2,2,2,2] 9 false rfl,hr_39_9,xk B39 [2,2,2,1,2,2,2,2,2] .rt rfl,fin39,R39.st,g,h,b,c,d,j,l,e,f,ah]
        ·have hJ:=f39_j3_ok k ay false _ a
         simp (disch:=first|decide|apply K;kernel_rfl) only [W,simprocAttr,xk B39 [3,2,1,2,2,2,2,2] .sk rfl,g,h,b,c,d,j,l,e,f,ah]
         try simp only [NM,EE] at hJ
         exact hJ
       | o1 a5 az =>
        (try dsimp only at a)
        (try simp only [NM,EE,R56.st] at f)
        simp (disch:=first|decide|apply K;kernel_rfl) only [W,simprocAttr,xk B39 [2,2,2,2,2] .sq rfl,sr 39 8 B39 [1,2,2,2,2,2] rfl rfl rfl,xk B39 [2,1,2,2,2,2,2] (.cd 58) rfl,g,h,b,c,d,j,l,e,f]
        rcases cond_some a with ⟨ai,a⟩ | ⟨ai,a⟩
        ·cases a
         simp (disch:=first|decide|apply K;kernel_rfl) only [W,simprocAttr,xk B39 [2,2,1,2,2,2,2,2] .sq rfl,rg B39 [1,2,2,1,2,2,2,2,2] 9 false rfl,hr_39_9,xk B39 [2,2,2,1,2,2,2,2,2] .rt rfl,fin39,R39.st,g,h,b,c,d,j,l,e,f,ai]
        ·have hJ:=f39_j4_ok k false az _ a
         simp (disch:=first|decide|apply K;kernel_rfl) only [W,simprocAttr,xk B39 [3,2,1,2,2,2,2,2] .sk rfl,g,h,b,c,d,j,l,e,f,ai]
         try simp only [NM,EE] at hJ
         exact hJ
noncomputable def f39_j1 (k:Nat) (x:Int) (s:Bool) (l a b c d e j f g h:Int) (i:List Int):Option R39 :=
 Option.bind (f57 k ([7,a,l,(IntKind.i64.wrap b),c,d,g,h,f,e]:List Int)) fun o3 =>
  match o3 with
  | .o0 t u v w =>
   Option.bind (f56 k t u v w) fun o10 =>
    match o10 with
    | .o0 m o =>
     cond ((o != 0))
      (some (.o0 [] 190))
      (f39_j2 k m false l a b c d e j f g h i)
    | .o1 p q =>
     cond ((p != 0))
      (some (.o0 [] 190))
      (f39_j5 k false l a b c d e j f g h i q)
theorem f39_j1_ok (k z v p a b c d e o f g h j r) (l:f39_j1 k z v p a b c d e o f g h j=some r):finK Tryd.prog Tryd.f39 0 (EX 39 k (nav B39 [2,2]) (⟨60,[(1,.ptr 1 0),(4,jI z),(11,jT v)],[(1,.box 47 [jI p,jI a,jU b,jI c,jI d,jI e,jI o,jI f,jI g,jI h,jB j])]⟩:St))=some r.st:=by
 unfold f39_j1 at l
 have q:[[jI 7],[jI a],[jI p],[(jI (IntKind.i64.wrap b))],[jI c],[jI d],[jI g],[jI h],[jI f],[jI e]]=rowsOf (encI .i64) ([7,a,p,(IntKind.i64.wrap b),c,d,g,h,f,e]:List Int):=rfl
 have s:List.map (tell [0]) (rowsOf (encI .i64) ([7,a,p,(IntKind.i64.wrap b),c,d,g,h,f,e]:List Int))=rowsOf (encI .i64) ([7,a,p,(IntKind.i64.wrap b),c,d,g,h,f,e]:List Int):=rfl
 obtain ⟨o3,n,l⟩:=bs l
 have m:=f57_ok k ([7,a,p,(IntKind.i64.wrap b),c,d,g,h,f,e]:List Int) _ n
 cases o3 with
 | o0 v6 v7 v8 v9 =>
  (try dsimp only at l)
  (try simp only [NM,EE,R57.st] at m)
  simp only [W,simprocAttr,sr 39 4 B39 [2,2] rfl rfl rfl,fieldAddrV,t_47,t_3,t_42,convV,buildSliceV,fillRows,sm_3,t_25,callStep,CL,gv,List.contains,q,s,m]
  obtain ⟨o10,w,l⟩:=bs l
  have i:=f56_ok k v6 v7 v8 v9 _ w
  cases o10 with
  | o0 x ae =>
   (try dsimp only at l)
   (try simp only [NM,EE,R56.st] at i)
   simp only [W,simprocAttr,xk B39 [2,2,2] .sq rfl,sr 39 5 B39 [1,2,2,2] rfl rfl rfl,xk B39 [2,1,2,2,2] (.cd 39) rfl,q,s,m,i]
   rcases cond_some l with ⟨t,l⟩ | ⟨t,l⟩
   ·cases l
    simp only [W,simprocAttr,xk B39 [2,2,1,2,2,2] .sq rfl,rg B39 [1,2,2,1,2,2,2] 6 false rfl,hr_39_6,xk B39 [2,2,2,1,2,2,2] .rt rfl,fin39,R39.st,q,s,m,i,t]
   ·have hJ:=f39_j2_ok k x false p a b c d e o f g h j _ l
    simp only [W,simprocAttr,xk B39 [3,2,1,2,2,2] .sk rfl,q,s,m,i,t]
    try simp only [NM,EE] at hJ
    exact hJ
  | o1 af y =>
   (try dsimp only at l)
   (try simp only [NM,EE,R56.st] at i)
   simp only [W,simprocAttr,xk B39 [2,2,2] .sq rfl,sr 39 5 B39 [1,2,2,2] rfl rfl rfl,xk B39 [2,1,2,2,2] (.cd 39) rfl,q,s,m,i]
   rcases cond_some l with ⟨u,l⟩ | ⟨u,l⟩
   ·cases l
    simp only [W,simprocAttr,xk B39 [2,2,1,2,2,2] .sq rfl,rg B39 [1,2,2,1,2,2,2] 6 false rfl,hr_39_6,xk B39 [2,2,2,1,2,2,2] .rt rfl,fin39,R39.st,q,s,m,i,u]
   ·have hJ:=f39_j5_ok k false p a b c d e o f g h j y _ l
    simp only [W,simprocAttr,xk B39 [3,2,1,2,2,2] .sk rfl,q,s,m,i,u]
    try simp only [NM,EE] at hJ
    exact hJ
noncomputable def f39_e (k:Nat) (m b c d e f g h i j:Int) (a:List Int):Option R39 :=
 Option.bind (f48 k m b c d e f g h i j a) fun o1 =>
  match o1 with
  | .o0 l =>
   cond ((l != 0))
    (some (.o0 [] l))
    (f39_j1 k l false m b c d e f g h i j a)
theorem f39_e_ok (k o b c d e f g h i j a r) (l:f39_e k o b c d e f g h i j a=some r):finK Tryd.prog Tryd.f39 0 (EX 39 k (nav B39 []) (⟨60,[(0,.agg [jI o,jI b,jU c,jI d,jI e,jI f,jI g,jI h,jI i,jI j,jB a])],[]⟩:St))=some r.st:=by
 unfold f39_e at l
 obtain ⟨o1,q,l⟩:=bs l
 have m:=f48_ok k o b c d e f g h i j a _ q
 cases o1 with
 | o0 s =>
  (try dsimp only at l)
  (try simp only [NM,EE,R48.st] at m)
  simp only [W,simprocAttr,sr 39 0 B39 [] rfl rfl rfl,xk B39 [2] .sq rfl,sr 39 1 B39 [1,2] rfl rfl rfl,t_47,callStep,CL,gv,List.contains,sr 39 2 B39 [2,1,2] rfl rfl rfl,xk B39 [2,2,1,2] (.cd 11) rfl,m]
  rcases cond_some l with ⟨p,l⟩ | ⟨p,l⟩
  ·cases l
   simp only [W,simprocAttr,xk B39 [2,2,2,1,2] .sq rfl,rg B39 [1,2,2,2,1,2] 3 false rfl,hr_39_3,xk B39 [2,2,2,2,1,2] .rt rfl,fin39,R39.st,m,p]
  ·have hJ:=f39_j1_ok k s false o b c d e f g h i j a _ l
   simp only [W,simprocAttr,xk B39 [3,2,2,1,2] .sk rfl,m,p]
   try simp only [NM,EE] at hJ
   exact hJ
noncomputable def f39 (k:Nat) (l b c d e f g h i j:Int) (a:List Int):Option R39:=match k with | 0=>none | k+1=>f39_e k l b c d e f g h i j a
theorem f39_ok (k m b d e f g h i j l a r) (o:f39 k m b d e f g h i j l a=some r):CV k 39 [.agg [jI m,jI b,jU d,jI e,jI f,jI g,jI h,jI i,jI j,jI l,jB a]] []=some r.st:=by
 cases k with
 | zero=>cases o
 | succ k =>
  unfold CV
  rw [ev_call (F:=Tryd.f39) (c:=(nav B39 [])) rfl Tryd.func39 rfl rfl rfl rfl]
  exact f39_e_ok k m b d e f g h i j l a r o
-- f15: f15 heliograph/bundle.Size
inductive R15 where
 | o0 (y:Int)
noncomputable def R15.st:R15→V×List O×List O
 | .o0 y=>((jI y),[],[])
noncomputable def f15_e (k:Nat) (l b c d e f g h i j:Int) (a:List Int):Option R15 :=
 Option.bind (f39 k l b c d e f g h i j a) fun o1 =>
  match o1 with
  | .o0 m p =>
   some (.o0 ((List.length m):Int))
  | .o1 q o =>
   some (.o0 ((List.length o):Int))
theorem f15_e_ok (k o b c d e f g h i j a r) (m:f15_e k o b c d e f g h i j a=some r):finK Tryd.prog Tryd.f15 0 (EX 15 k (nav B15 []) (⟨12,[(0,.agg [jI o,jI b,jU c,jI d,jI e,jI f,jI g,jI h,jI i,jI j,jB a])],[]⟩:St))=some r.st:=by
 unfold f15_e at m
 simp only [W,simprocAttr,sr 15 0 B15 [] rfl rfl rfl,sr 15 1 B15 [2] rfl rfl rfl,t_47,callStep,CL,gv,List.contains]
 obtain ⟨o1,p,m⟩:=bs m
 have l:=f39_ok k o b c d e f g h i j a _ p
 cases o1 with
 | o0 q s =>
  (try dsimp only at m)
  (try simp only [NM,EE,R39.st] at l)
  cases m
  simp only [W,simprocAttr,sr 15 2 B15 [2,2] rfl rfl rfl,t_45,xk B15 [2,2,2] .rt rfl,fin15,R15.st,l]
 | o1 t u =>
  (try dsimp only at m)
  (try simp only [NM,EE,R39.st] at l)
  cases m
  simp only [W,simprocAttr,sr 15 2 B15 [2,2] rfl rfl rfl,t_45,xk B15 [2,2,2] .rt rfl,fin15,R15.st,l]
noncomputable def f15 (k:Nat) (l b c d e f g h i j:Int) (a:List Int):Option R15:=match k with | 0=>none | k+1=>f15_e k l b c d e f g h i j a
theorem f15_ok (k m b d e f g h i j l a r) (o:f15 k m b d e f g h i j l a=some r):CV k 15 [.agg [jI m,jI b,jU d,jI e,jI f,jI g,jI h,jI i,jI j,jI l,jB a]] []=some r.st:=by
 cases k with
 | zero=>cases o
 | succ k =>
  unfold CV
  rw [ev_call (F:=Tryd.f15) (c:=(nav B15 [])) rfl Tryd.func15 rfl rfl rfl rfl]
  exact f15_e_ok k m b d e f g h i j l a r o
end Go.Proofs.YtiompmmbjpjjeaaDoorV