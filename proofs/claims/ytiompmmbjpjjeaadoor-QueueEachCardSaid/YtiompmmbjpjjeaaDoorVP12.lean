/- What the program's functions answer: plain functions,and that the interpreter answers what they do. Written by a program of this session,out of the translation. -/
import Derived.Test.YtiompmmbjpjjeaaDoorVP11
namespace Go.Proofs.YtiompmmbjpjjeaaDoorV
open Go
set_option linter.unusedVariables false
set_option linter.unusedSimpArgs false
set_option maxRecDepth 8000
set_option maxHeartbeats 4000000
-- f49: f49 slices.stableCmpFunc[heliograph/api.Bundle]
inductive R49 where
 | o0 (y:List T47)
noncomputable def R49.st:R49→V×List O×List O
 | .o0 y=>(V.tup [],[.row true 11 47 (rowsOf encT47 y)],[])
inductive R49_l1 where
 | o0 (y a b c:Int) (d:List T47)
 | o1 (y a b c:Int) (d:Bool) (e:List T47)
noncomputable def R49_l1.st:R49_l1→Out×St
 | .o0 y a b c d=>(.norm,(⟨63,[(0,.own 1000000),(1,jI y),(2,V.p (Value.func (Fn.func 29) #[] #[])),(6,jI a),(7,jI b),(8,jI c)],[(1000000,.row true 11 47 (rowsOf encT47 d))]⟩:St))
 | .o1 y a b c d e=>(.exit 0,(⟨63,[(0,.own 1000000),(1,jI y),(2,V.p (Value.func (Fn.func 29) #[] #[])),(6,jI a),(7,jI b),(8,jI c),(13,jT d)],[(1000000,.row true 11 47 (rowsOf encT47 e))]⟩:St))
noncomputable def f49_l1_j1 (k:Nat) (c b d a:Int) (e:Bool) (f:List T47):Option R49_l1 :=
 Option.bind (f66 k d a f) fun o1 =>
  match o1 with
  | .o0 g =>
   some (.o0 c b a (IntKind.i64.wrap (a+b)) g)
theorem f49_l1_j1_ok (k g h d e a f r) (b:f49_l1_j1 k g h d e a f=some r):EX 49 k (nav B49 [2,1,2,1,2,2]) (⟨63,[(0,.own 1000000),(1,jI g),(2,V.p (Value.func (Fn.func 29) #[] #[])),(6,jI h),(7,jI d),(8,jI e),(13,jT a)],[(1000000,.row true 11 47 (rowsOf encT47 f))]⟩:St)=some r.st:=by
 unfold f49_l1_j1 at b
 obtain ⟨o1,i,b⟩:=bs b
 have c:=f66_ok k d e f _ i
 cases o1 with
 | o0 j =>
  (try dsimp only at b)
  (try simp only [NM,EE,R66.st] at c)
  cases b
  simp only [W,simprocAttr,xk B49 [2,1,2,1,2,2] (.bk 1) rfl,sr 49 3 B49 [2,2,1,2,1,2,2] rfl rfl rfl,callStep,CL,gv,List.contains,sr 49 4 B49 [2,2,2,1,2,1,2,2] rfl rfl rfl,rg B49 [2,2,2,2,1,2,1,2,2] 5 false rfl,hr 49 5 rfl,R49_l1.st,c]
noncomputable def f49_l1_b (k:Nat) (a c d b:Int) (e:List T47):Option R49_l1 :=
 cond ((decide (b≤a)))
  (f49_l1_j1 k a c d b true e)
  (some (.o1 a c d b false e))
theorem f49_l1_b_ok (k b c d e f r) (a:f49_l1_b k b c d e f=some r):EX 49 k (nav B49 [1,2,1,2,2]) (⟨63,[(0,.own 1000000),(1,jI b),(2,V.p (Value.func (Fn.func 29) #[] #[])),(6,jI c),(7,jI d),(8,jI e)],[(1000000,.row true 11 47 (rowsOf encT47 f))]⟩:St)=some r.st:=by
 unfold f49_l1_b at a
 simp only [W,simprocAttr,xk B49 [1,2,1,2,2] .sq rfl,sr 49 2 B49 [1,1,2,1,2,2] rfl rfl rfl,xk B49 [2,1,1,2,1,2,2] (.cd 13) rfl]
 rcases cond_some a with ⟨g,a⟩ | ⟨g,a⟩
 ·have hJ:=f49_l1_j1_ok k b c d e true f _ a
  simp only [W,simprocAttr,xk B49 [2,2,1,1,2,1,2,2] .sk rfl,g]
  try simp only [NM,EE] at hJ
  exact hJ
 ·cases a
  simp only [W,simprocAttr,xk B49 [3,2,1,1,2,1,2,2] (.ex 0) rfl,R49_l1.st,g]
noncomputable def f49_l1 (k:Nat):Nat→Int→Int→Int→Int→(List T47)→Option R49_l1
 | 0,_,_,_,_,_=>none
 | n+1,f,g,h,i,j=>Option.bind (f49_l1_b k f g h i j) fun o =>
  match o with
  | .o0 y a b c d=>f49_l1 k n y a b c d
  | .o1 y a b c d e=>some (.o1 y a b c d e)
theorem f49_l1_ok (k n:Nat):∀ (b c d e:Int) (f:List T47) (r:R49_l1) (a:f49_l1 k n b c d e f=some r) (σ:St) (hσ:headR (hints.head 49 2) (hints.canon 49 2) σ=some (⟨63,[(0,.own 1000000),(1,jI b),(2,V.p (Value.func (Fn.func 29) #[] #[])),(6,jI c),(7,jI d),(8,jI e)],[(1000000,.row true 11 47 (rowsOf encT47 f))]⟩:St)),LP 49 k (nav B49 [1,2,1,2,2]) n σ=some r.st:=by
 induction n with
 | zero=>intro b c d e f r a;cases a
 | succ n m =>
  intro b c d e f r a σ hσ
  rw [f49_l1] at a
  obtain ⟨o,h,a⟩:=Option.bind_eq_some_iff.1 a
  have hB:=f49_l1_b_ok k b c d e f o h
  unfold LP at m ⊢
  unfold EX at hB
  rw [loopK_succ,show firstReg (nav B49 [1,2,1,2,2])=2 from rfl,hσ,headK_some,hB]
  cases o with
  | o0 y g i j l =>
   refine m y g i j l r a _ ?_
   simp only [W,simprocAttr,hh_49_2,hc_49_2]
  | o1 y g i j l p=>cases a;rfl
inductive R49_l3_l2 where
 | o0 (y a b c:Int) (d:List T47)
 | o1 (y a b c:Int) (d:Bool) (e:List T47)
noncomputable def R49_l3_l2.st:R49_l3_l2→Out×St
 | .o0 y a b c d=>(.norm,(⟨63,[(0,.own 1000000),(1,jI y),(2,V.p (Value.func (Fn.func 29) #[] #[])),(6,jI a),(7,jI b),(8,jI c)],[(1000000,.row true 11 47 (rowsOf encT47 d))]⟩:St))
 | .o1 y a b c d e=>(.exit 4,(⟨63,[(0,.own 1000000),(1,jI y),(2,V.p (Value.func (Fn.func 29) #[] #[])),(6,jI a),(7,jI b),(8,jI c),(35,jT d)],[(1000000,.row true 11 47 (rowsOf encT47 e))]⟩:St))
noncomputable def f49_l3_l2_j1 (k:Nat) (d a c b:Int) (e:Bool) (f:List T47):Option R49_l3_l2 :=
 Option.bind (f67 k c (IntKind.i64.wrap (c+a)) b f) fun o1 =>
  match o1 with
  | .o0 g =>
   some (R49_l3_l2.o0 d a b (IntKind.i64.wrap (b+(IntKind.i64.wrap ((2:Int) * a)))) g)
theorem f49_l3_l2_j1_ok (k h e d f a g r) (b:f49_l3_l2_j1 k h e d f a g=some r):EX 49 k (nav B49 [2,1,2,1,2,2,2,1,2,2,2,2,2]) (⟨63,[(0,.own 1000000),(1,jI h),(2,V.p (Value.func (Fn.func 29) #[] #[])),(6,jI e),(7,jI d),(8,jI f),(35,jT a)],[(1000000,.row true 11 47 (rowsOf encT47 g))]⟩:St)=some r.st:=by
 unfold f49_l3_l2_j1 at b
 obtain ⟨o1,i,b⟩:=bs b
 have c:=f67_ok k d (IntKind.i64.wrap (d+e)) f g _ i
 cases o1 with
 | o0 j =>
  (try dsimp only at b)
  (try simp only [NM,EE,R67.st] at c)
  cases b
  simp only [W,simprocAttr,xk B49 [2,1,2,1,2,2,2,1,2,2,2,2,2] (.bk 5) rfl,sr 49 10 B49 [2,2,1,2,1,2,2,2,1,2,2,2,2,2] rfl rfl rfl,callStep,CL,gv,List.contains,sr 49 11 B49 [2,2,2,1,2,1,2,2,2,1,2,2,2,2,2] rfl rfl rfl,rg B49 [2,2,2,2,1,2,1,2,2,2,1,2,2,2,2,2] 12 false rfl,hr 49 12 rfl,R49_l3_l2.st,c]
noncomputable def f49_l3_l2_b (k:Nat) (a c d b:Int) (e:List T47):Option R49_l3_l2 :=
 cond ((decide (b≤a)))
  (f49_l3_l2_j1 k a c d b true e)
  (some (R49_l3_l2.o1 a c d b false e))
theorem f49_l3_l2_b_ok (k b c d e f r) (a:f49_l3_l2_b k b c d e f=some r):EX 49 k (nav B49 [1,2,1,2,2,2,1,2,2,2,2,2]) (⟨63,[(0,.own 1000000),(1,jI b),(2,V.p (Value.func (Fn.func 29) #[] #[])),(6,jI c),(7,jI d),(8,jI e)],[(1000000,.row true 11 47 (rowsOf encT47 f))]⟩:St)=some r.st:=by
 unfold f49_l3_l2_b at a
 simp only [W,simprocAttr,xk B49 [1,2,1,2,2,2,1,2,2,2,2,2] .sq rfl,sr 49 9 B49 [1,1,2,1,2,2,2,1,2,2,2,2,2] rfl rfl rfl,xk B49 [2,1,1,2,1,2,2,2,1,2,2,2,2,2] (.cd 35) rfl]
 rcases cond_some a with ⟨g,a⟩ | ⟨g,a⟩
 ·have hJ:=f49_l3_l2_j1_ok k b c d e true f _ a
  simp only [W,simprocAttr,xk B49 [2,2,1,1,2,1,2,2,2,1,2,2,2,2,2] .sk rfl,g]
  try simp only [NM,EE] at hJ
  exact hJ
 ·cases a
  simp only [W,simprocAttr,xk B49 [3,2,1,1,2,1,2,2,2,1,2,2,2,2,2] (.ex 4) rfl,R49_l3_l2.st,g]
noncomputable def f49_l3_l2 (k:Nat):Nat→Int→Int→Int→Int→(List T47)→Option R49_l3_l2
 | 0,_,_,_,_,_=>none
 | n+1,f,g,h,i,j=>Option.bind (f49_l3_l2_b k f g h i j) fun o =>
  match o with
  | .o0 y a b c d=>f49_l3_l2 k n y a b c d
  | .o1 y a b c d e=>some (.o1 y a b c d e)
theorem f49_l3_l2_ok (k n:Nat):∀ (b c d e:Int) (f:List T47) (r:R49_l3_l2) (a:f49_l3_l2 k n b c d e f=some r) (σ:St) (hσ:headR (hints.head 49 9) (hints.canon 49 9) σ=some (⟨63,[(0,.own 1000000),(1,jI b),(2,V.p (Value.func (Fn.func 29) #[] #[])),(6,jI c),(7,jI d),(8,jI e)],[(1000000,.row true 11 47 (rowsOf encT47 f))]⟩:St)),LP 49 k (nav B49 [1,2,1,2,2,2,1,2,2,2,2,2]) n σ=some r.st:=by
 induction n with
 | zero=>intro b c d e f r a;cases a
 | succ n m =>
  intro b c d e f r a σ hσ
  rw [f49_l3_l2] at a
  obtain ⟨o,h,a⟩:=Option.bind_eq_some_iff.1 a
  have hB:=f49_l3_l2_b_ok k b c d e f o h
  unfold LP at m ⊢
  unfold EX at hB
  rw [loopK_succ,show firstReg (nav B49 [1,2,1,2,2,2,1,2,2,2,2,2])=9 from rfl,hσ,headK_some,hB]
  cases o with
  | o0 y g i j l =>
   refine m y g i j l r a _ ?_
   simp only [W,simprocAttr,hh_49_9,hc_49_9]
  | o1 y g i j l p=>cases a;rfl
inductive R49_l3 where
 | o0 (y a:Int) (b:List T47)
 | o1 (y a:Int) (b:Bool) (c:List T47)
noncomputable def R49_l3.st:R49_l3→Out×St
 | .o0 y a b=>(.norm,(⟨63,[(0,.own 1000000),(1,jI y),(2,V.p (Value.func (Fn.func 29) #[] #[])),(6,jI a)],[(1000000,.row true 11 47 (rowsOf encT47 b))]⟩:St))
 | .o1 y a b c=>(.exit 2,(⟨63,[(0,.own 1000000),(1,jI y),(2,V.p (Value.func (Fn.func 29) #[] #[])),(6,jI a),(30,jT b)],[(1000000,.row true 11 47 (rowsOf encT47 c))]⟩:St))
noncomputable def f49_l3_j4 (k:Nat) (a b:Int) (c:List T47):Option R49_l3 :=
 some (.o0 a (IntKind.i64.wrap (b * (2:Int))) c)
theorem f49_l3_j4_ok (k a b c r) (d:f49_l3_j4 k a b c=some r):blockK 3 (EX 49 k (nav B49 [2,2,2,2,2,1,2,2,2,2,2]) (⟨63,[(0,.own 1000000),(1,jI a),(2,V.p (Value.func (Fn.func 29) #[] #[])),(6,jI b)],[(1000000,.row true 11 47 (rowsOf encT47 c))]⟩:St))=some r.st:=by
 unfold f49_l3_j4 at d
 cases d
 simp only [W,simprocAttr,rg B49 [2,2,2,2,2,1,2,2,2,2,2] 16 false rfl,hr 49 16 rfl,R49_l3.st]
noncomputable def f49_l3_j5 (k:Nat) (a b e f:Int) (c:Bool) (d:List T47):Option R49_l3 :=
 some (.o0 a (IntKind.i64.wrap (b * (2:Int))) d)
theorem f49_l3_j5_ok (k b c d e a f r) (g:f49_l3_j5 k b c d e a f=some r):blockK 3 (EX 49 k (nav B49 [2,2,2,2,2,1,2,2,2,2,2]) (⟨63,[(0,.own 1000000),(1,jI b),(2,V.p (Value.func (Fn.func 29) #[] #[])),(6,jI c),(7,jI d),(9,jI e),(54,jT a)],[(1000000,.row true 11 47 (rowsOf encT47 f))]⟩:St))=some r.st:=by
 unfold f49_l3_j5 at g
 cases g
 simp only [W,simprocAttr,rg B49 [2,2,2,2,2,1,2,2,2,2,2] 16 false rfl,hr 49 16 rfl,R49_l3.st]
noncomputable def f49_l3_j3 (k:Nat) (c a b g:Int) (e:Bool) (d:List T47):Option R49_l3 :=
 cond ((decide ((IntKind.i64.wrap (b+a))<c)))
  (
   Option.bind (f67 k b (IntKind.i64.wrap (b+a)) c d) fun o2 =>
    match o2 with
    | .o0 f =>
     f49_l3_j4 k c a f)
  (f49_l3_j5 k c a b (IntKind.i64.wrap (b+a)) false d)
theorem f49_l3_j3_ok (k d b c i e g r) (a:f49_l3_j3 k d b c i e g=some r):blockK 3 (EX 49 k (nav B49 [2,2,2,2,1,2,2,2,2,2]) (⟨63,[(0,.own 1000000),(1,jI d),(2,V.p (Value.func (Fn.func 29) #[] #[])),(6,jI b),(7,jI c),(8,jI i),(35,jT e)],[(1000000,.row true 11 47 (rowsOf encT47 g))]⟩:St))=some r.st:=by
 unfold f49_l3_j3 at a
 simp only [W,simprocAttr,xk B49 [2,2,2,2,1,2,2,2,2,2] .sq rfl,sr 49 13 B49 [1,2,2,2,2,1,2,2,2,2,2] rfl rfl rfl,sr 49 14 B49 [2,1,2,2,2,2,1,2,2,2,2,2] rfl rfl rfl,xk B49 [2,2,1,2,2,2,2,1,2,2,2,2,2] (.cd 54) rfl]
 rcases cond_some a with ⟨h,a⟩ | ⟨h,a⟩
 ·obtain ⟨o2,j,a⟩:=bs a
  have f:=f67_ok k c (IntKind.i64.wrap (c+b)) d g _ j
  cases o2 with
  | o0 l =>
   (try dsimp only at a)
   (try simp only [NM,EE,R67.st] at f)
   have hJ:=f49_l3_j4_ok k d b l _ a
   simp only [W,simprocAttr,rg B49 [2,2,2,1,2,2,2,2,1,2,2,2,2,2] 15 false rfl,hr 49 15 rfl,callStep,CL,gv,List.contains,h,f]
   try simp only [NM,EE] at hJ
   exact hJ
 ·have hJ:=f49_l3_j5_ok k d b c (IntKind.i64.wrap (c+b)) false g _ a
  simp only [W,simprocAttr,xk B49 [3,2,2,1,2,2,2,2,1,2,2,2,2,2] .sk rfl,h]
  try simp only [NM,EE] at hJ
  exact hJ
noncomputable def f49_l3_j1 (k:Nat) (b a:Int) (c:Bool) (d:List T47):Option R49_l3 :=
 Option.bind (f49_l3_l2 k k b a 0 (IntKind.i64.wrap ((2:Int) * a)) d) fun o1 =>
  match o1 with
  | .o0 _ _ _ _ _ =>
   none
  | .o1 e f g h i j =>
   f49_l3_j3 k e f g h i j
theorem f49_l3_j1_ok (k e d c f r) (a:f49_l3_j1 k e d c f=some r):EX 49 k (nav B49 [2,1,2,2,2,2,2]) (⟨63,[(0,.own 1000000),(1,jI e),(2,V.p (Value.func (Fn.func 29) #[] #[])),(6,jI d),(30,jT c)],[(1000000,.row true 11 47 (rowsOf encT47 f))]⟩:St)=some r.st:=by
 unfold f49_l3_j1 at a
 obtain ⟨o1,g,a⟩:=bs a
 have b:=f49_l3_l2_ok k k e d 0 (IntKind.i64.wrap ((2:Int) * d)) f _ g
 simp only [W,simprocAttr,xk B49 [2,1,2,2,2,2,2] (.bk 3) rfl,sr 49 8 B49 [2,2,1,2,2,2,2,2] rfl rfl rfl,xk B49 [2,2,2,1,2,2,2,2,2] .sq rfl,xk B49 [1,2,2,2,1,2,2,2,2,2] (.bk 4) rfl,xk B49 [2,1,2,2,2,1,2,2,2,2,2] .lp rfl,hh_49_9,hc_49_9]
 (try simp only [NM,EE] at b)
 rw [b _ (by simp only [W,simprocAttr,hh_49_9,hc_49_9])]
 clear b
 cases o1 with
 | o0 _ _ _ _ _ =>
  (try dsimp only at a)
  cases a
 | o1 h i j l m o =>
  (try dsimp only at a)
  have hJ:=f49_l3_j3_ok k h i j l m o _ a
  simp only [W,simprocAttr,R49_l3_l2.st]
  try simp only [NM,EE] at hJ
  exact hJ
noncomputable def f49_l3_b (k:Nat) (a b:Int) (c:List T47):Option R49_l3 :=
 cond ((decide (b<a)))
  (f49_l3_j1 k a b true c)
  (some (.o1 a b false c))
theorem f49_l3_b_ok (k b c d r) (a:f49_l3_b k b c d=some r):EX 49 k (nav B49 [1,2,2,2,2,2]) (⟨63,[(0,.own 1000000),(1,jI b),(2,V.p (Value.func (Fn.func 29) #[] #[])),(6,jI c)],[(1000000,.row true 11 47 (rowsOf encT47 d))]⟩:St)=some r.st:=by
 unfold f49_l3_b at a
 simp only [W,simprocAttr,xk B49 [1,2,2,2,2,2] .sq rfl,sr 49 7 B49 [1,1,2,2,2,2,2] rfl rfl rfl,xk B49 [2,1,1,2,2,2,2,2] (.cd 30) rfl]
 rcases cond_some a with ⟨e,a⟩ | ⟨e,a⟩
 ·have hJ:=f49_l3_j1_ok k b c true d _ a
  simp only [W,simprocAttr,xk B49 [2,2,1,1,2,2,2,2,2] .sk rfl,e]
  try simp only [NM,EE] at hJ
  exact hJ
 ·cases a
  simp only [W,simprocAttr,xk B49 [3,2,1,1,2,2,2,2,2] (.ex 2) rfl,R49_l3.st,e]
noncomputable def f49_l3 (k:Nat):Nat→Int→Int→(List T47)→Option R49_l3
 | 0,_,_,_=>none
 | n+1,d,e,f=>Option.bind (f49_l3_b k d e f) fun o =>
  match o with
  | .o0 y a b=>f49_l3 k n y a b
  | .o1 y a b c=>some (.o1 y a b c)
theorem f49_l3_ok (k n:Nat):∀ (b c:Int) (d:List T47) (r:R49_l3) (a:f49_l3 k n b c d=some r) (σ:St) (hσ:headR (hints.head 49 7) (hints.canon 49 7) σ=some (⟨63,[(0,.own 1000000),(1,jI b),(2,V.p (Value.func (Fn.func 29) #[] #[])),(6,jI c)],[(1000000,.row true 11 47 (rowsOf encT47 d))]⟩:St)),LP 49 k (nav B49 [1,2,2,2,2,2]) n σ=some r.st:=by
 induction n with
 | zero=>intro b c d r a;cases a
 | succ n g =>
  intro b c d r a σ hσ
  rw [f49_l3] at a
  obtain ⟨o,h,a⟩:=Option.bind_eq_some_iff.1 a
  have hB:=f49_l3_b_ok k b c d o h
  unfold LP at g ⊢
  unfold EX at hB
  rw [loopK_succ,show firstReg (nav B49 [1,2,2,2,2,2])=7 from rfl,hσ,headK_some,hB]
  cases o with
  | o0 y e f =>
   refine g y e f r a _ ?_
   simp only [W,simprocAttr,hh_49_7,hc_49_7]
  | o1 y e f i=>cases a;rfl
noncomputable def f49_j2 (k:Nat) (b c d i:Int) (e:Bool) (f:List T47):Option R49 :=
 Option.bind (f66 k d b f) fun o1 =>
  match o1 with
  | .o0 g =>
   Option.bind (f49_l3 k k b c g) fun o5 =>
    match o5 with
    | .o0 _ _ _ =>
     none
    | .o1 j l h a =>
     some (.o0 a)
theorem f49_j2_ok (k e f g i d h r) (a:f49_j2 k e f g i d h=some r):finK Tryd.prog Tryd.f49 1 (EX 49 k (nav B49 [2,2,2]) (⟨63,[(0,.own 1000000),(1,jI e),(2,V.p (Value.func (Fn.func 29) #[] #[])),(6,jI f),(7,jI g),(8,jI i),(13,jT d)],[(1000000,.row true 11 47 (rowsOf encT47 h))]⟩:St))=some r.st:=by
 unfold f49_j2 at a
 obtain ⟨o1,j,a⟩:=bs a
 have b:=f66_ok k g e h _ j
 cases o1 with
 | o0 l =>
  (try dsimp only at a)
  (try simp only [NM,EE,R66.st] at b)
  obtain ⟨o5,m,a⟩:=bs a
  have c:=f49_l3_ok k k e f l _ m
  simp only [W,simprocAttr,sr 49 6 B49 [2,2,2] rfl rfl rfl,callStep,CL,gv,List.contains,xk B49 [2,2,2,2] (.bk 2) rfl,xk B49 [2,2,2,2,2] .lp rfl,hh_49_7,hc_49_7,b]
  (try simp only [NM,EE] at c)
  rw [c _ (by simp only [W,simprocAttr,hh_49_7,hc_49_7,b])]
  clear c
  cases o5 with
  | o0 _ _ _ =>
   (try dsimp only at a)
   cases a
  | o1 q s o p =>
   (try dsimp only at a)
   cases a
   simp only [W,simprocAttr,R49_l3.st,fin49,R49.st,b]
noncomputable def f49_e (k:Nat) (a:Int) (b:List T47):Option R49 :=
 Option.bind (f49_l1 k k a 20 0 20 b) fun o1 =>
  match o1 with
  | .o0 _ _ _ _ _ =>
   none
  | .o1 c d e f g h =>
   f49_j2 k c d e f g h
theorem f49_e_ok (k c d r) (a:f49_e k c d=some r):finK Tryd.prog Tryd.f49 1 (EX 49 k (nav B49 []) (⟨63,[(0,.own 1000000),(1,jI c),(2,V.p (Value.func (Fn.func 29) #[] #[]))],[(1000000,.row true 11 47 (rowsOf encT47 d))]⟩:St))=some r.st:=by
 unfold f49_e at a
 obtain ⟨o1,e,a⟩:=bs a
 have b:=f49_l1_ok k k c 20 0 20 d _ e
 simp only [W,simprocAttr,sr 49 0 B49 [] rfl rfl rfl,sr 49 1 B49 [2] rfl rfl rfl,xk B49 [2,2] .sq rfl,xk B49 [1,2,2] (.bk 0) rfl,xk B49 [2,1,2,2] .lp rfl,hh_49_2,hc_49_2]
 (try simp only [NM,EE] at b)
 rw [b _ (by simp only [W,simprocAttr,hh_49_2,hc_49_2])]
 clear b
 cases o1 with
 | o0 _ _ _ _ _ =>
  (try dsimp only at a)
  cases a
 | o1 f g h i j l =>
  (try dsimp only at a)
  have hJ:=f49_j2_ok k f g h i j l _ a
  simp only [W,simprocAttr,R49_l1.st]
  try simp only [NM,EE] at hJ
  exact hJ
noncomputable def f49 (k:Nat) (a:Int) (b:List T47):Option R49:=match k with | 0=>none | k+1=>f49_e k a b
theorem f49_ok (k a b r) (d:f49 k a b=some r):CV k 49 [.own 1000000,jI a,V.p (Value.func (Fn.func 29) #[] #[])] [.row true 11 47 (rowsOf encT47 b)]=some r.st:=by
 cases k with
 | zero=>cases d
 | succ k =>
  unfold CV
  rw [ev_call (F:=Tryd.f49) (c:=(nav B49 [])) rfl Tryd.func49 rfl rfl rfl rfl]
  exact f49_e_ok k a b r d
-- f28: f28 slices.SortStableFunc[[]heliograph/api.Bundle,heliograph/api.Bundle]
inductive R28 where
 | o0 (y:List T47)
noncomputable def R28.st:R28→V×List O×List O
 | .o0 y=>(V.tup [],[.row true 11 47 (rowsOf encT47 y)],[])
noncomputable def f28_e (k:Nat) (a:List T47):Option R28 :=
 Option.bind (f49 k ((List.length a):Int) a) fun o1 =>
  match o1 with
  | .o0 b =>
   some (.o0 b)
theorem f28_e_ok (k c r) (a:f28_e k c=some r):finK Tryd.prog Tryd.f28 1 (EX 28 k (nav B28 []) (⟨9,[(0,.own 1000000),(1,V.p (Value.func (Fn.func 29) #[] #[]))],[(1000000,.row true 11 47 (rowsOf encT47 c))]⟩:St))=some r.st:=by
 unfold f28_e at a
 obtain ⟨o1,d,a⟩:=bs a
 have b:=f49_ok k ((List.length c):Int) c _ d
 cases o1 with
 | o0 e =>
  (try dsimp only at a)
  (try simp only [NM,EE,R49.st] at b)
  cases a
  simp only [W,simprocAttr,rg B28 [] 0 false rfl,hr 28 0 rfl,t_29,callStep,CL,gv,List.contains,fin28,R28.st,b]
noncomputable def f28 (k:Nat) (a:List T47):Option R28:=match k with | 0=>none | k+1=>f28_e k a
theorem f28_ok (k a r) (b:f28 k a=some r):CV k 28 [.own 1000000,V.p (Value.func (Fn.func 29) #[] #[])] [.row true 11 47 (rowsOf encT47 a)]=some r.st:=by
 cases k with
 | zero=>cases b
 | succ k =>
  unfold CV
  rw [ev_call (F:=Tryd.f28) (c:=(nav B28 [])) rfl Tryd.func28 rfl rfl rfl rfl]
  exact f28_e_ok k a r b
-- f12: f12 heliograph/custody.Order
inductive R12 where
 | o0 (y:List T44)
noncomputable def R12.st:R12→V×List O×List O
 | .o0 y=>(.own 2000000,[],[.row true 3 44 (rowsOf encT44 y)])
inductive R12_l2 where
 | o0 (y a:Int) (b:List T44) (c:List T47)
 | o1 (y a:Int) (b:Bool) (c:List T44) (d:List T47)
noncomputable def R12_l2.st:R12_l2→Out×St
 | .o0 y a b c=>(.norm,(⟨28,[(4,.own 25),(15,.own 30001),(16,jI y),(17,jI a)],[(25,.row true 3 44 (rowsOf encT44 b)),(30001,.row true 11 47 (rowsOf encT47 c))]⟩:St))
 | .o1 y a b c d=>(.exit 0,(⟨28,[(4,.own 30000),(15,.own 30001),(16,jI y),(17,jI a),(18,jT b)],[(30000,.row true 3 44 (rowsOf encT44 c)),(30001,.row true 11 47 (rowsOf encT47 d))]⟩:St))
noncomputable def f12_l2_j2 (k:Nat) (a b:Int) (c:List T44) (d:List T47):Option R12_l2 :=
 some (.o0 a (IntKind.i64.wrap (b+(1:Int))) c d)
theorem f12_l2_j2_ok (k a b c d r) (e:f12_l2_j2 k a b c d=some r):EX 12 k (nav B12 [2,2,2,1,2,2,1,2,2,2,2,2]) (⟨28,[(4,.own 25),(15,.own 30001),(16,jI a),(17,jI b)],[(25,.row true 3 44 (rowsOf encT44 c)),(30001,.row true 11 47 (rowsOf encT47 d))]⟩:St)=some r.st:=by
 unfold f12_l2_j2 at e
 cases e
 simp only [W,simprocAttr,rg B12 [2,2,2,1,2,2,1,2,2,2,2,2] 10 false rfl,hr 12 10 rfl,R12_l2.st]
noncomputable def f12_l2_j1 (k:Nat) (e b:Int) (g:Bool) (d:List T44) (c:List T47):Option R12_l2 :=
 ifE ((0:Int)≤b) (
  ifE (b<((List.length c):Int)) (
   Option.bind (c[(Int.toNat b)]?) fun a =>
    Option.bind (f20 k a.Source a.Dest a.Seq a.Created a.Lifetime a.HopLimit a.Hops a.Priority a.Offset a.Total a.Payload) fun o5 =>
     match o5 with
     | .o0 h i f =>
      ifE (((List.length d)+1) * 24≤roomy) (
       f12_l2_j2 k e b (d++([(T44.mk h i f)]:List T44)) c)))
theorem f12_l2_j1_ok (k d e h f g r) (a:f12_l2_j1 k d e h f g=some r):EX 12 k (nav B12 [2,2,1,2,2,1,2,2,2,2,2]) (⟨28,[(4,.own 30000),(15,.own 30001),(16,jI d),(17,jI e),(18,jT h)],[(30000,.row true 3 44 (rowsOf encT44 f)),(30001,.row true 11 47 (rowsOf encT47 g))]⟩:St)=some r.st:=by
 unfold f12_l2_j1 at a
 obtain ⟨q,a⟩:=ifE_some.1 a
 obtain ⟨s,a⟩:=ifE_some.1 a
 obtain ⟨b,t,a⟩:=bs a
 obtain ⟨o5,u,a⟩:=bs a
 have i:=f20_ok k b.Source b.Dest b.Seq b.Created b.Lifetime b.HopLimit b.Hops b.Priority b.Offset b.Total b.Payload _ u
 cases o5 with
 | o0 j l c =>
  (try dsimp only at a)
  (try simp only [NM,EE,R20.st] at i)
  have m:[[jI j,jU l,jI c]]=rowsOf encT44 ([(T44.mk j l c)]:List T44):=rfl
  have o:List.map (tell [0,0,0]) (rowsOf encT44 ([(T44.mk j l c)]:List T44))=rowsOf encT44 ([(T44.mk j l c)]:List T44):=rfl
  obtain ⟨p,a⟩:=ifE_some.1 a
  have hJ:=f12_l2_j2_ok k d e (f++([(T44.mk j l c)]:List T44)) g _ a
  simp only [W,simprocAttr,xk B12 [2,2,1,2,2,1,2,2,2,2,2] .sq rfl,xk B12 [1,2,2,1,2,2,1,2,2,2,2,2] (.bk 1) rfl,sr 12 8 B12 [2,1,2,2,1,2,2,1,2,2,2,2,2] rfl rfl rfl,indexAddrV,t_29,t_47,encT47_eq,rg B12 [2,2,1,2,2,1,2,2,1,2,2,2,2,2] 9 false rfl,hr 12 9 rfl,callStep,CL,gv,List.contains,buildSliceV,fillRows,sm_44,t_26,t_44,appendV,content,q,s,t,i,m,o,p]
  try simp only [NM,EE] at hJ
  exact hJ
noncomputable def f12_l2_b (k:Nat) (a b:Int) (c:List T44) (d:List T47):Option R12_l2 :=
 cond ((decide (b<a)))
  (f12_l2_j1 k a b true c d)
  (some (.o1 a b false c d))
theorem f12_l2_b_ok (k a b c d r) (e:f12_l2_b k a b c d=some r):EX 12 k (nav B12 [1,2,2,1,2,2,2,2,2]) (⟨28,[(4,.own 30000),(15,.own 30001),(16,jI a),(17,jI b)],[(30000,.row true 3 44 (rowsOf encT44 c)),(30001,.row true 11 47 (rowsOf encT47 d))]⟩:St)=some r.st:=by
 unfold f12_l2_b at e
 simp only [W,simprocAttr,sr 12 7 B12 [1,2,2,1,2,2,2,2,2] rfl rfl rfl,xk B12 [2,1,2,2,1,2,2,2,2,2] .sq rfl,xk B12 [1,2,1,2,2,1,2,2,2,2,2] (.cd 18) rfl]
 rcases cond_some e with ⟨f,e⟩ | ⟨f,e⟩
 ·have hJ:=f12_l2_j1_ok k a b true c d _ e
  simp only [W,simprocAttr,xk B12 [2,1,2,1,2,2,1,2,2,2,2,2] .sk rfl,f]
  try simp only [NM,EE] at hJ
  exact hJ
 ·cases e
  simp only [W,simprocAttr,xk B12 [3,1,2,1,2,2,1,2,2,2,2,2] (.ex 0) rfl,R12_l2.st,f]
noncomputable def f12_l2 (k:Nat):Nat→Int→Int→(List T44)→(List T47)→Option R12_l2
 | 0,_,_,_,_=>none
 | n+1,d,e,f,g=>Option.bind (f12_l2_b k d e f g) fun o =>
  match o with
  | .o0 y a b c=>f12_l2 k n y a b c
  | .o1 y a b c h=>some (.o1 y a b c h)
theorem f12_l2_ok (k n:Nat):∀ (a b:Int) (c:List T44) (d:List T47) (r:R12_l2) (e:f12_l2 k n a b c d=some r) (σ:St) (hσ:headR (hints.head 12 7) (hints.canon 12 7) σ=some (⟨28,[(4,.own 30000),(15,.own 30001),(16,jI a),(17,jI b)],[(30000,.row true 3 44 (rowsOf encT44 c)),(30001,.row true 11 47 (rowsOf encT47 d))]⟩:St)),LP 12 k (nav B12 [1,2,2,1,2,2,2,2,2]) n σ=some r.st:=by
 induction n with
 | zero=>intro a b c d r e;cases e
 | succ n j =>
  intro a b c d r e σ hσ
  rw [f12_l2] at e
  obtain ⟨o,h,e⟩:=Option.bind_eq_some_iff.1 e
  have hB:=f12_l2_b_ok k a b c d o h
  unfold LP at j ⊢
  unfold EX at hB
  rw [loopK_succ,show firstReg (nav B12 [1,2,2,1,2,2,2,2,2])=7 from rfl,hσ,headK_some,hB]
  cases o with
  | o0 y f g i =>
   refine j y f g i r e _ ?_
   simp only [W,simprocAttr,hh_12_7,hc_12_7]
  | o1 y f g i l=>cases e;rfl
noncomputable def f12_j3 (k:Nat) (b c:Int) (d:Bool) (a:List T44) (e:List T47):Option R12 :=
 some (.o0 a)
theorem f12_j3_ok (k a b c d e r) (f:f12_j3 k a b c d e=some r):finK Tryd.prog Tryd.f12 0 (EX 12 k (nav B12 [2,2,2,2,2,2]) (⟨28,[(4,.own 30000),(15,.own 30001),(16,jI a),(17,jI b),(18,jT c)],[(30000,.row true 3 44 (rowsOf encT44 d)),(30001,.row true 11 47 (rowsOf encT47 e))]⟩:St))=some r.st:=by
 unfold f12_j3 at f
 cases f
 simp only [W,simprocAttr,sr 12 11 B12 [2,2,2,2,2,2] rfl rfl rfl,xk B12 [2,2,2,2,2,2,2] .rt rfl,fin12,R12.st]
noncomputable def f12_j1 (k:Nat) (i:Bool) (g:List T47):Option R12 :=
 Option.bind (f27 k g) fun o1 =>
  match o1 with
  | .o0 h =>
   Option.bind (f28 k h) fun o5 =>
    match o5 with
    | .o0 f =>
     Option.bind (f12_l2 k k ((List.length f):Int) 0 [] f) fun o9 =>
      match o9 with
      | .o0 _ _ _ _ =>
       none
      | .o1 a b c d e =>
       f12_j3 k a b c d e
theorem f12_j1_ok (k m e r) (a:f12_j1 k m e=some r):finK Tryd.prog Tryd.f12 0 (EX 12 k (nav B12 [2,2]) (⟨28,[(1,.ptr 1 0),(9,jT m)],[(1,.box 31 [.sl 11 (rowsOf encT47 e)])]⟩:St))=some r.st:=by
 unfold f12_j1 at a
 obtain ⟨o1,p,a⟩:=bs a
 have c:=f27_ok k e _ p
 cases o1 with
 | o0 q =>
  (try dsimp only at a)
  (try simp only [NM,EE,R27.st] at c)
  obtain ⟨o5,s,a⟩:=bs a
  have d:=f28_ok k q _ s
  cases o5 with
  | o0 o =>
   (try dsimp only at a)
   (try simp only [NM,EE,R28.st] at d)
   obtain ⟨o9,f,a⟩:=bs a
   have b:=f12_l2_ok k k ((List.length o):Int) 0 [] o _ f
   simp only [W,simprocAttr,sr 12 3 B12 [2,2] rfl rfl rfl,fieldAddrV,t_31,t_29,callStep,CL,gv,List.contains,sr 12 4 B12 [2,2,2] rfl rfl rfl,xk B12 [2,2,2,2] .sq rfl,rg B12 [1,2,2,2,2] 5 false rfl,hr_12_5,xk B12 [2,2,2,2,2] .sq rfl,sr 12 6 B12 [1,2,2,2,2,2] rfl rfl rfl,xk B12 [2,1,2,2,2,2,2] (.bk 0) rfl,xk B12 [2,2,1,2,2,2,2,2] .lp rfl,hh_12_7,hc_12_7,c,d]
   (try simp only [NM,EE] at b)
   rw [b _ (by simp only [W,simprocAttr,hh_12_7,hc_12_7,c,d])]
   clear b
   cases o9 with
   | o0 _ _ _ _ =>
    (try dsimp only at a)
    cases a
   | o1 g h i j l =>
    (try dsimp only at a)
    have hJ:=f12_j3_ok k g h i j l _ a
    simp only [W,simprocAttr,R12_l2.st,c,d]
    try simp only [NM,EE] at hJ
    exact hJ
noncomputable def f12_e (k:Nat) (a:List T47):Option R12 :=
 Option.bind (f26 k a) fun o1 =>
  match o1 with
  | .o0 b =>
   cond ((b != 0))
    (some (.o0 []))
    (f12_j1 k false a)
theorem f12_e_ok (k c r) (a:f12_e k c=some r):finK Tryd.prog Tryd.f12 0 (EX 12 k (nav B12 []) (⟨28,[(0,.agg [.sl 11 (rowsOf encT47 c)])],[]⟩:St))=some r.st:=by
 unfold f12_e at a
 obtain ⟨o1,e,a⟩:=bs a
 have b:=f26_ok k c _ e
 cases o1 with
 | o0 f =>
  (try dsimp only at a)
  (try simp only [NM,EE,R26.st] at b)
  simp only [W,simprocAttr,sr 12 0 B12 [] rfl rfl rfl,xk B12 [2] .sq rfl,sr 12 1 B12 [1,2] rfl rfl rfl,t_31,callStep,CL,gv,List.contains,xk B12 [2,1,2] (.cd 9) rfl,b]
  rcases cond_some a with ⟨d,a⟩ | ⟨d,a⟩
  ·cases a
   simp only [W,simprocAttr,xk B12 [2,2,1,2] .sq rfl,rg B12 [1,2,2,1,2] 2 false rfl,hr_12_2,xk B12 [2,2,2,1,2] .rt rfl,fin12,R12.st,b,d]
  ·have hJ:=f12_j1_ok k false c _ a
   simp only [W,simprocAttr,xk B12 [3,2,1,2] .sk rfl,b,d]
   try simp only [NM,EE] at hJ
   exact hJ
noncomputable def f12 (k:Nat) (a:List T47):Option R12:=match k with | 0=>none | k+1=>f12_e k a
theorem f12_ok (k a r) (b:f12 k a=some r):CV k 12 [.agg [.sl 11 (rowsOf encT47 a)]] []=some r.st:=by
 cases k with
 | zero=>cases b
 | succ k =>
  unfold CV
  rw [ev_call (F:=Tryd.f12) (c:=(nav B12 [])) rfl Tryd.func12 rfl rfl rfl rfl]
  exact f12_e_ok k a r b
-- f32: f32 heliograph/custody.own
inductive R32 where
 | o0 (y b c d e f g h i j:Int) (a:List Int)
noncomputable def R32.st:R32→V×List O×List O
 | .o0 y b c d e f g h i j a=>(.agg [jI y,jI b,jU c,jI d,jI e,jI f,jI g,jI h,jI i,jI j,.own 2000000],[],[.row true 1 5 (rowsOf (encI .u8) a)])
noncomputable def f32_e (k:Nat) (l b c d e f g h i j:Int) (a:List Int):Option R32 :=
 Option.bind (f53 k a) fun o1 =>
  match o1 with
  | .o0 m =>
   some (.o0 l b c d e f g h i j m)
theorem f32_e_ok (k o b c d e f g h i j a r) (l:f32_e k o b c d e f g h i j a=some r):finK Tryd.prog Tryd.f32 0 (EX 32 k (nav B32 []) (⟨8,[(0,.agg [jI o,jI b,jU c,jI d,jI e,jI f,jI g,jI h,jI i,jI j,jB a])],[]⟩:St))=some r.st:=by
 unfold f32_e at l
 obtain ⟨o1,p,l⟩:=bs l
 have m:=f53_ok k a _ p
 cases o1 with
 | o0 q =>
  (try dsimp only at l)
  (try simp only [NM,EE,R53.st] at m)
  cases l
  simp only [W,simprocAttr,xk B32 [] .sq rfl,rg B32 [1] 0 false rfl,hr_32_0,t_47,sr 32 1 B32 [2] rfl rfl rfl,fieldAddrV,t_45,callStep,CL,gv,List.contains,sr 32 2 B32 [2,2] rfl rfl rfl,xk B32 [2,2,2] .rt rfl,fin32,R32.st,m]
noncomputable def f32 (k:Nat) (l b c d e f g h i j:Int) (a:List Int):Option R32:=match k with | 0=>none | k+1=>f32_e k l b c d e f g h i j a
theorem f32_ok (k m b d e f g h i j l a r) (o:f32 k m b d e f g h i j l a=some r):CV k 32 [.agg [jI m,jI b,jU d,jI e,jI f,jI g,jI h,jI i,jI j,jI l,jB a]] []=some r.st:=by
 cases k with
 | zero=>cases o
 | succ k =>
  unfold CV
  rw [ev_call (F:=Tryd.f32) (c:=(nav B32 [])) rfl Tryd.func32 rfl rfl rfl rfl]
  exact f32_e_ok k m b d e f g h i j l a r o
-- f13: f13 heliograph/custody.Find
inductive R13 where
 | o0 (y c d e f g h i j l:Int) (a:List Int) (b:Int)
noncomputable def R13.st:R13→V×List O×List O
 | .o0 y c d e f g h i j l a b=>(V.tup [.agg [jI y,jI c,jU d,jI e,jI f,jI g,jI h,jI i,jI j,jI l,jB a],jI b],[],[])
noncomputable def f13_j2 (k:Nat) (l:Int) (x:Bool) (y:List T47) (m4 m o p q s t u v w:Int) (b:List Int):Option R13 :=
 ifE ((0:Int)≤l) (
  Option.bind (y[(Int.toNat l)]?) fun a =>
   Option.bind (f32 k a.Source a.Dest a.Seq a.Created a.Lifetime a.HopLimit a.Hops a.Priority a.Offset a.Total a.Payload) fun o4 =>
    match o4 with
    | .o0 z r n c d e f g h i j =>
     some (.o0 z r n c d e f g h i j 0))
theorem f13_j2_ok (k q o s t d e f g h i j l m a r) (c:f13_j2 k q o s t d e f g h i j l m a=some r):finK Tryd.prog Tryd.f13 0 (EX 13 k (nav B13 [2,2,2,2]) (⟨26,[(2,.ptr 2 0),(4,.ptr 4 0),(7,jI q),(18,jT o)],[(2,.box 31 [.sl 11 (rowsOf encT47 s)]),(4,.box 47 [jI t,jI d,jU e,jI f,jI g,jI h,jI i,jI j,jI l,jI m,jB a])]⟩:St))=some r.st:=by
 unfold f13_j2 at c
 obtain ⟨u,c⟩:=ifE_some.1 c
 obtain ⟨b,v,c⟩:=bs c
 obtain ⟨o4,w,c⟩:=bs c
 have p:=f32_ok k b.Source b.Dest b.Seq b.Created b.Lifetime b.HopLimit b.Hops b.Priority b.Offset b.Total b.Payload _ w
 cases o4 with
 | o0 v7 v8 v9 x y z n aa ab ac ad =>
  (try dsimp only at c)
  (try simp only [NM,EE,R32.st] at p)
  cases c
  simp only [W,simprocAttr,xk B13 [2,2,2,2] .sq rfl,rg B13 [1,2,2,2,2] 7 false rfl,hr_13_7,fieldAddrV,t_31,t_29,indexAddrV,t_47,encT47_eq,callStep,CL,gv,List.contains,xk B13 [2,2,2,2,2] .rt rfl,fin13,R13.st,u,v,p]
noncomputable def f13_j1 (k:Nat) (u:Int) (q:Bool) (o:List T47) (s b c t d e f g h i j l m:Int) (a:List Int):Option R13 :=
 Option.bind (f31 k o s b c) fun o1 =>
  match o1 with
  | .o0 p =>
   cond ((decide (p<0)))
    (some (.o0 0 0 0 0 0 0 0 0 0 0 [] 4))
    (f13_j2 k p false o t d e f g h i j l m a)
theorem f13_j1_ok (k w q s t b c u d e f g h i j l m a r) (o:f13_j1 k w q s t b c u d e f g h i j l m a=some r):finK Tryd.prog Tryd.f13 0 (EX 13 k (nav B13 [2,2]) (⟨26,[(2,.ptr 2 0),(3,.ptr 3 0),(4,.ptr 4 0),(6,jI w),(11,jT q)],[(2,.box 31 [.sl 11 (rowsOf encT47 s)]),(3,.box 44 [jI t,jU b,jI c]),(4,.box 47 [jI u,jI d,jU e,jI f,jI g,jI h,jI i,jI j,jI l,jI m,jB a])]⟩:St))=some r.st:=by
 unfold f13_j1 at o
 obtain ⟨o1,x,o⟩:=bs o
 have p:=f31_ok k s t b c _ x
 cases o1 with
 | o0 y =>
  (try dsimp only at o)
  (try simp only [NM,EE,R31.st] at p)
  simp only [W,simprocAttr,sr 13 4 B13 [2,2] rfl rfl rfl,t_31,t_44,callStep,CL,gv,List.contains,xk B13 [2,2,2] .sq rfl,sr 13 5 B13 [1,2,2,2] rfl rfl rfl,xk B13 [2,1,2,2,2] (.cd 18) rfl,p]
  rcases cond_some o with ⟨v,o⟩ | ⟨v,o⟩
  ·cases o
   simp only [W,simprocAttr,xk B13 [2,2,1,2,2,2] .sq rfl,rg B13 [1,2,2,1,2,2,2] 6 false rfl,hr_13_6,bl_47,t_47,xk B13 [2,2,2,1,2,2,2] .rt rfl,fin13,R13.st,p,v]
  ·have hJ:=f13_j2_ok k y false s u d e f g h i j l m a _ o
   simp only [W,simprocAttr,xk B13 [3,2,1,2,2,2] .sk rfl,p,v]
   try simp only [NM,EE] at hJ
   exact hJ
noncomputable def f13_e (k:Nat) (d:List T47) (e a b:Int):Option R13 :=
 Option.bind (f26 k d) fun o1 =>
  match o1 with
  | .o0 c =>
   cond ((c != 0))
    (some (.o0 0 0 0 0 0 0 0 0 0 0 [] c))
    (f13_j1 k c false d e a b 0 0 0 0 0 0 0 0 0 0 [])
theorem f13_e_ok (k e f a b r) (c:f13_e k e f a b=some r):finK Tryd.prog Tryd.f13 0 (EX 13 k (nav B13 []) (⟨26,[(0,.agg [.sl 11 (rowsOf encT47 e)]),(1,.agg [jI f,jU a,jI b])],[]⟩:St))=some r.st:=by
 unfold f13_e at c
 obtain ⟨o1,h,c⟩:=bs c
 have d:=f26_ok k e _ h
 cases o1 with
 | o0 i =>
  (try dsimp only at c)
  (try simp only [NM,EE,R26.st] at d)
  simp only [W,simprocAttr,xk B13 [] .sq rfl,rg B13 [1] 0 false rfl,hr_13_0,t_47,xk B13 [2] .sq rfl,sr 13 1 B13 [1,2] rfl rfl rfl,t_31,callStep,CL,gv,List.contains,sr 13 2 B13 [2,1,2] rfl rfl rfl,xk B13 [2,2,1,2] (.cd 11) rfl,d]
  rcases cond_some c with ⟨g,c⟩ | ⟨g,c⟩
  ·cases c
   simp only [W,simprocAttr,xk B13 [2,2,2,1,2] .sq rfl,rg B13 [1,2,2,2,1,2] 3 false rfl,hr_13_3,bl_47,t_47,xk B13 [2,2,2,2,1,2] .rt rfl,fin13,R13.st,d,g]
  ·have hJ:=f13_j1_ok k i false e f a b 0 0 0 0 0 0 0 0 0 0 [] _ c
   simp only [W,simprocAttr,xk B13 [3,2,2,1,2] .sk rfl,d,g]
   try simp only [NM,EE] at hJ
   exact hJ
noncomputable def f13 (k:Nat) (c:List T47) (d a b:Int):Option R13:=match k with | 0=>none | k+1=>f13_e k c d a b
theorem f13_ok (k d e a b r) (f:f13 k d e a b=some r):CV k 13 [.agg [.sl 11 (rowsOf encT47 d)],.agg [jI e,jU a,jI b]] []=some r.st:=by
 cases k with
 | zero=>cases f
 | succ k =>
  unfold CV
  rw [ev_call (F:=Tryd.f13) (c:=(nav B13 [])) rfl Tryd.func13 rfl rfl rfl rfl]
  exact f13_e_ok k d e a b r f
-- f64: f64 slices.Index[[]heliograph/api.Key,heliograph/api.Key]
inductive R64 where
 | o0 (y:Int)
noncomputable def R64.st:R64→V×List O×List O
 | .o0 y=>((jI y),[],[])
inductive R64_l1 where
 | o0 (y:Int)
 | o1 (y:List T44) (a b c d e:Int)
 | o2 (y:List T44) (a b:Int) (c:Bool) (d e f:Int)
noncomputable def R64_l1.st:R64_l1→Out×St
 | .o0 y=>(.ret,(⟨19,[(4,jI y)],[]⟩:St))
 | .o1 y a b c d e=>(.norm,(⟨19,[(0,.sl 3 (rowsOf encT44 y)),(3,.ptr 30000 0),(7,jI a),(8,jI b)],[(30000,.box 44 [jI c,jU d,jI e])]⟩:St))
 | .o2 y a b c d e f=>(.exit 0,(⟨19,[(0,.sl 3 (rowsOf encT44 y)),(3,.ptr 30000 0),(7,jI a),(8,jI b),(9,jT c)],[(30000,.box 44 [jI d,jU e,jI f])]⟩:St))
noncomputable def f64_l1_j2 (k:Nat) (d:List T44) (h e f:Int) (g:Bool) (c a b:Int):Option R64_l1 :=
 some (.o1 d e (IntKind.i64.wrap (f+(1:Int))) c a b)
theorem f64_l1_j2_ok (k e f g h c d a b r) (i:f64_l1_j2 k e f g h c d a b=some r):EX 64 k (nav B64 [2,2,2,1,2,2,1,2]) (⟨19,[(0,.sl 3 (rowsOf encT44 e)),(3,.ptr 30000 0),(5,jI f),(7,jI g),(8,jI h),(16,jT c)],[(30000,.box 44 [jI d,jU a,jI b])]⟩:St)=some r.st:=by
 unfold f64_l1_j2 at i
 cases i
 simp only [W,simprocAttr,rg B64 [2,2,2,1,2,2,1,2] 6 false rfl,hr 64 6 rfl,R64_l1.st]
noncomputable def f64_l1_j1 (k:Nat) (f:List T44) (g c:Int) (h:Bool) (d a b:Int):Option R64_l1 :=
 ifE ((0:Int)≤c) (
  Option.bind (f[(Int.toNat c)]?) fun e =>
   cond (((d==e.Source)&&((a==e.Seq)&&(b==e.Offset))))
    (some (.o0 c))
    (f64_l1_j2 k f c g c false d a b))
theorem f64_l1_j1_ok (k f g e l d a b r) (c:f64_l1_j1 k f g e l d a b=some r):EX 64 k (nav B64 [2,2,1,2,2,1,2]) (⟨19,[(0,.sl 3 (rowsOf encT44 f)),(3,.ptr 30000 0),(7,jI g),(8,jI e),(9,jT l)],[(30000,.box 44 [jI d,jU a,jI b])]⟩:St)=some r.st:=by
 unfold f64_l1_j1 at c
 obtain ⟨h,c⟩:=ifE_some.1 c
 obtain ⟨m,i,c⟩:=bs c
 simp (disch:=first|decide|apply K;kernel_rfl) only [W,simprocAttr,xk B64 [2,2,1,2,2,1,2] .sq rfl,xk B64 [1,2,2,1,2,2,1,2] (.bk 1) rfl,sr 64 3 B64 [2,1,2,2,1,2,2,1,2] rfl rfl rfl,xk B64 [2,2,1,2,2,1,2,2,1,2] .sq rfl,rg B64 [1,2,2,1,2,2,1,2,2,1,2] 4 true rfl,hr 64 4 rfl,t_44,indexAddrV,t_26,encT44_eq,ag_44,t_3,t_42,xk B64 [2,2,2,1,2,2,1,2,2,1,2] (.cd 16) rfl,h,i]
 rcases cond_some c with ⟨j,c⟩ | ⟨j,c⟩
 ·cases c
  simp (disch:=first|decide|apply K;kernel_rfl) only [W,simprocAttr,sr 64 5 B64 [2,2,2,2,1,2,2,1,2,2,1,2] rfl rfl rfl,xk B64 [2,2,2,2,2,1,2,2,1,2,2,1,2] .rt rfl,R64_l1.st,h,i,j]
 ·have hJ:=f64_l1_j2_ok k f e g e false d a b _ c
  simp (disch:=first|decide|apply K;kernel_rfl) only [W,simprocAttr,xk B64 [3,2,2,2,1,2,2,1,2,2,1,2] .sk rfl,h,i,j]
  try simp only [NM,EE] at hJ
  exact hJ
noncomputable def f64_l1_b (k:Nat) (f:List T44) (d e c a b:Int):Option R64_l1 :=
 cond ((decide (e<d)))
  (f64_l1_j1 k f d e true c a b)
  (some (.o2 f d e false c a b))
theorem f64_l1_b_ok (k e f g c a b r) (d:f64_l1_b k e f g c a b=some r):EX 64 k (nav B64 [1,2,2,1,2]) (⟨19,[(0,.sl 3 (rowsOf encT44 e)),(3,.ptr 30000 0),(7,jI f),(8,jI g)],[(30000,.box 44 [jI c,jU a,jI b])]⟩:St)=some r.st:=by
 unfold f64_l1_b at d
 simp only [W,simprocAttr,sr 64 2 B64 [1,2,2,1,2] rfl rfl rfl,xk B64 [2,1,2,2,1,2] .sq rfl,xk B64 [1,2,1,2,2,1,2] (.cd 9) rfl]
 rcases cond_some d with ⟨h,d⟩ | ⟨h,d⟩
 ·have hJ:=f64_l1_j1_ok k e f g true c a b _ d
  simp only [W,simprocAttr,xk B64 [2,1,2,1,2,2,1,2] .sk rfl,h]
  try simp only [NM,EE] at hJ
  exact hJ
 ·cases d
  simp only [W,simprocAttr,xk B64 [3,1,2,1,2,2,1,2] (.ex 0) rfl,R64_l1.st,h]
noncomputable def f64_l1 (k:Nat):Nat→(List T44)→Int→Int→Int→Int→Int→Option R64_l1
 | 0,_,_,_,_,_,_=>none
 | n+1,j,l,m,h,a,b=>Option.bind (f64_l1_b k j l m h a b) fun o =>
  match o with
  | .o0 y=>some (.o0 y)
  | .o1 y c d e f g=>f64_l1 k n y c d e f g
  | .o2 y c d e f g i=>some (.o2 y c d e f g i)
theorem f64_l1_ok (k n:Nat):∀ (e:List T44) (f g c a b:Int) (r:R64_l1) (d:f64_l1 k n e f g c a b=some r) (σ:St) (hσ:headR (hints.head 64 2) (hints.canon 64 2) σ=some (⟨19,[(0,.sl 3 (rowsOf encT44 e)),(3,.ptr 30000 0),(7,jI f),(8,jI g)],[(30000,.box 44 [jI c,jU a,jI b])]⟩:St)),LP 64 k (nav B64 [1,2,2,1,2]) n σ=some r.st:=by
 induction n with
 | zero=>intro e f g c a b r d;cases d
 | succ n q =>
  intro e f g c a b r d σ hσ
  rw [f64_l1] at d
  obtain ⟨o,h,d⟩:=Option.bind_eq_some_iff.1 d
  have hB:=f64_l1_b_ok k e f g c a b o h
  unfold LP at q ⊢
  unfold EX at hB
  rw [loopK_succ,show firstReg (nav B64 [1,2,2,1,2])=2 from rfl,hσ,headK_some,hB]
  cases o with
  | o0 y=>cases d;rfl
  | o1 y i j l m p =>
   refine q y i j l m p r d _ ?_
   simp only [W,simprocAttr,hh_64_2,hc_64_2]
  | o2 y i j l m p s=>cases d;rfl
noncomputable def f64_j2 (k:Nat) (d:List T44) (e f:Int) (g:Bool) (c a b:Int):Option R64 :=
 some (.o0 (-1))
theorem f64_j2_ok (k d e f g c a b r) (h:f64_j2 k d e f g c a b=some r):finK Tryd.prog Tryd.f64 0 (EX 64 k (nav B64 [2,2]) (⟨19,[(0,.sl 3 (rowsOf encT44 d)),(3,.ptr 30000 0),(7,jI e),(8,jI f),(9,jT g)],[(30000,.box 44 [jI c,jU a,jI b])]⟩:St))=some r.st:=by
 unfold f64_j2 at h
 cases h
 simp only [W,simprocAttr,sr 64 7 B64 [2,2] rfl rfl rfl,xk B64 [2,2,2] .rt rfl,fin64,R64.st]
noncomputable def f64_e (k:Nat) (e:List T44) (f a b:Int):Option R64 :=
 Option.bind (f64_l1 k k e ((List.length e):Int) 0 f a b) fun o1 =>
  match o1 with
  | .o0 g =>
   some (.o0 g)
  | .o1 _ _ _ _ _ _ =>
   none
  | .o2 h i j l m c d =>
   f64_j2 k h i j l m c d
theorem f64_e_ok (k e f a b r) (c:f64_e k e f a b=some r):finK Tryd.prog Tryd.f64 0 (EX 64 k (nav B64 []) (⟨19,[(0,.sl 3 (rowsOf encT44 e)),(1,.agg [jI f,jU a,jI b])],[]⟩:St))=some r.st:=by
 unfold f64_e at c
 obtain ⟨o1,i,c⟩:=bs c
 have d:=f64_l1_ok k k e ((List.length e):Int) 0 f a b _ i
 simp only [W,simprocAttr,sr 64 0 B64 [] rfl rfl rfl,xk B64 [2] .sq rfl,sr 64 1 B64 [1,2] rfl rfl rfl,t_26,xk B64 [2,1,2] (.bk 0) rfl,xk B64 [2,2,1,2] .lp rfl,hh_64_2,hc_64_2]
 (try simp only [NM,EE] at d)
 rw [d _ (by simp only [W,simprocAttr,hh_64_2,hc_64_2])]
 clear d
 cases o1 with
 | o0 q =>
  (try dsimp only at c)
  cases c
  simp only [W,simprocAttr,R64_l1.st,fin64,R64.st]
 | o1 _ _ _ _ _ _ =>
  (try dsimp only at c)
  cases c
 | o2 j l m o p g h =>
  (try dsimp only at c)
  have hJ:=f64_j2_ok k j l m o p g h _ c
  simp only [W,simprocAttr,R64_l1.st]
  try simp only [NM,EE] at hJ
  exact hJ
noncomputable def f64 (k:Nat) (c:List T44) (d a b:Int):Option R64:=match k with | 0=>none | k+1=>f64_e k c d a b
theorem f64_ok (k d e a b r) (f:f64 k d e a b=some r):CV k 64 [.sl 3 (rowsOf encT44 d),.agg [jI e,jU a,jI b]] []=some r.st:=by
 cases k with
 | zero=>cases f
 | succ k =>
  unfold CV
  rw [ev_call (F:=Tryd.f64) (c:=(nav B64 [])) rfl Tryd.func64 rfl rfl rfl rfl]
  exact f64_e_ok k d e a b r f
end Go.Proofs.YtiompmmbjpjjeaaDoorV