/- What the program's functions answer: plain functions,and that the interpreter answers what they do. Written by a program of this session,out of the translation. -/
import Derived.Test.YticggdfaehneeaaVP4
namespace Go.Proofs.YticggdfaehneeaaV
open Go
set_option linter.unusedVariables false
set_option linter.unusedSimpArgs false
set_option maxRecDepth 8000
set_option maxHeartbeats 4000000
-- f59: f59 heliograph/pieces.gaps
inductive R59 where
 | o0 (y:List T104)
noncomputable def R59.st:R59→V×List O×List O
 | .o0 y=>(.own 2000000,[],[.row true 2 104 (rowsOf encT104 y)])
inductive R59_s1_l1_l1 where
 | o0 (y:List Bool) (a:Int) (b:List T104)
 | o1 (y:List Bool) (a:Int) (b:Bool) (c:List T104)
noncomputable def R59_s1_l1_l1.st:R59_s1_l1_l1→Out×St
 | .o0 y a b=>(.norm,(⟨47,[(0,.sl 1 (rowsOf encB y)),(3,.own 30000),(4,jI a)],[(30000,.row true 2 104 (rowsOf encT104 b))]⟩:St))
 | .o1 y a b c=>(.exit 2,(⟨47,[(0,.sl 1 (rowsOf encB y)),(3,.own 30000),(4,jI a),(15,.p (.bool b))],[(30000,.row true 2 104 (rowsOf encT104 c))]⟩:St))
noncomputable def f59_s1_l1_l1_j1 (k:Nat) (b:List Bool) (c:Int) (d:Bool) (a:List T104):Option R59_s1_l1_l1 :=
 some (R59_s1_l1_l1.o0 b (IntKind.i64.wrap (c+(1:Int))) a)
theorem f59_s1_l1_l1_j1_ok (k c d a b r) (e:f59_s1_l1_l1_j1 k c d a b=some r):EX 59 k (nav B59 [2,1,2,1,2,1,2,1,2,2,2,1,2]) (⟨47,[(0,.sl 1 (rowsOf encB c)),(3,.own 30000),(4,jI d),(15,.p (.bool a))],[(30000,.row true 2 104 (rowsOf encT104 b))]⟩:St)=some r.st:=by
 unfold f59_s1_l1_l1_j1 at e
 cases e
 simp (disch:=first|apply D;decide|apply K;kernel_rfl) only [E,EE,↓reduceIte,simprocAttr,xk B59 [2,1,2,1,2,1,2,1,2,2,2,1,2] (.bk 3) rfl,rg B59 [2,2,1,2,1,2,1,2,1,2,2,2,1,2] 4 false rfl,hr 59 4 rfl,R59_s1_l1_l1.st]
noncomputable def f59_s1_l1_l1_b (k:Nat) (c:List Bool) (b:Int) (a:List T104):Option R59_s1_l1_l1 :=
 cond ((decide (b<((List.length c):Int))))
  (
   ifE ((0:Int)≤b) (
    Option.bind (c[(Int.toNat b)]?) fun d =>
     cond (d)
      (f59_s1_l1_l1_j1 k c b true a)
      (some (R59_s1_l1_l1.o1 c b false a))))
  (some (R59_s1_l1_l1.o1 c b false a))
theorem f59_s1_l1_l1_b_ok (k d e b r) (a:f59_s1_l1_l1_b k d e b=some r):EX 59 k (nav B59 [1,2,1,2,1,2,1,2,2,2,1,2]) (⟨47,[(0,.sl 1 (rowsOf encB d)),(3,.own 30000),(4,jI e)],[(30000,.row true 2 104 (rowsOf encT104 b))]⟩:St)=some r.st:=by
 unfold f59_s1_l1_l1_b at a
 simp (disch:=first|apply D;decide|apply K;kernel_rfl) only [E,EE,↓reduceIte,simprocAttr,xk B59 [1,2,1,2,1,2,1,2,2,2,1,2] .sq rfl,xk B59 [1,1,2,1,2,1,2,1,2,2,2,1,2] .sq rfl,rg B59 [1,1,1,2,1,2,1,2,1,2,2,2,1,2] 3 false rfl,hr 59 3 rfl,t_90]
 rcases cond_some a with ⟨c,a⟩ | ⟨c,a⟩
 ·obtain ⟨f,a⟩:=ifE_some.1 a
  obtain ⟨i,g,a⟩:=bs a
  simp (disch:=first|apply D;decide|apply K;kernel_rfl) only [E,EE,↓reduceIte,simprocAttr,indexAddrV,t_90,t_4,encB_eq,xk B59 [2,1,1,2,1,2,1,2,1,2,2,2,1,2] (.cd 15) rfl,c,f,g]
  rcases cond_some a with ⟨h,a⟩ | ⟨h,a⟩
  ·have hJ:=f59_s1_l1_l1_j1_ok k d e true b _ a
   simp (disch:=first|apply D;decide|apply K;kernel_rfl) only [E,EE,↓reduceIte,simprocAttr,xk B59 [2,2,1,1,2,1,2,1,2,1,2,2,2,1,2] .sk rfl,c,f,g,h]
   try simp only [NM,EE] at hJ
   exact hJ
  ·cases a
   simp (disch:=first|apply D;decide|apply K;kernel_rfl) only [E,EE,↓reduceIte,simprocAttr,xk B59 [3,2,1,1,2,1,2,1,2,1,2,2,2,1,2] (.ex 2) rfl,R59_s1_l1_l1.st,c,f,g,h]
 ·cases a
  simp (disch:=first|apply D;decide|apply K;kernel_rfl) only [E,EE,↓reduceIte,simprocAttr,xk B59 [2,1,1,2,1,2,1,2,1,2,2,2,1,2] (.cd 15) rfl,xk B59 [3,2,1,1,2,1,2,1,2,1,2,2,2,1,2] (.ex 2) rfl,R59_s1_l1_l1.st,c]
noncomputable def f59_s1_l1_l1 (k:Nat):Nat→(List Bool)→Int→(List T104)→Option R59_s1_l1_l1
 | 0,_,_,_=>none
 | n+1,e,f,c=>Option.bind (f59_s1_l1_l1_b k e f c) fun o =>
  match o with
  | .o0 y a b=>f59_s1_l1_l1 k n y a b
  | .o1 y a b d=>some (.o1 y a b d)
theorem f59_s1_l1_l1_ok (k n:Nat):∀ (c:List Bool) (d:Int) (a:List T104) (r:R59_s1_l1_l1) (b:f59_s1_l1_l1 k n c d a=some r) (σ:St) (hσ:headR (hints.head 59 3) (hints.canon 59 3) σ=some (⟨47,[(0,.sl 1 (rowsOf encB c)),(3,.own 30000),(4,jI d)],[(30000,.row true 2 104 (rowsOf encT104 a))]⟩:St)),LP 59 k (nav B59 [1,2,1,2,1,2,1,2,2,2,1,2]) n σ=some r.st:=by
 induction n with
 | zero=>intro c d a r b;cases b
 | succ n g =>
  intro c d a r b σ hσ
  rw [f59_s1_l1_l1] at b
  obtain ⟨o,h,b⟩:=Option.bind_eq_some_iff.1 b
  have hB:=f59_s1_l1_l1_b_ok k c d a o h
  unfold LP at g ⊢
  unfold EX at hB
  rw [loopK_succ,show firstReg (nav B59 [1,2,1,2,1,2,1,2,2,2,1,2])=3 from rfl,hσ,headK_some,hB]
  cases o with
  | o0 y e f =>
   refine g y e f r b _ ?_
   simp (disch:=first|apply D;decide|apply K;kernel_rfl) only [E,EE,↓reduceIte,simprocAttr,hh_59_3,hc_59_3]
  | o1 y e f i=>cases b;rfl
inductive R59_s1_l1_l4 where
 | o0 (y:List Bool) (a:Int) (b:List T104) (c d:Int)
 | o1 (y:List Bool) (a:Int) (b:Bool) (c:List T104) (d e:Int)
noncomputable def R59_s1_l1_l4.st:R59_s1_l1_l4→Out×St
 | .o0 y a b c d=>(.norm,(⟨47,[(0,.sl 1 (rowsOf encB y)),(3,.own 30000),(4,jI a),(5,.ptr 30001 0)],[(30000,.row true 2 104 (rowsOf encT104 b)),(30001,.box 104 [jI c,jI d])]⟩:St))
 | .o1 y a b c d e=>(.exit 4,(⟨47,[(0,.sl 1 (rowsOf encB y)),(3,.own 30000),(4,jI a),(5,.ptr 30001 0),(34,.p (.bool b))],[(30000,.row true 2 104 (rowsOf encT104 c)),(30001,.box 104 [jI d,jI e])]⟩:St))
noncomputable def f59_s1_l1_l4_j1 (k:Nat) (d:List Bool) (e:Int) (f:Bool) (b:List T104) (c a:Int):Option R59_s1_l1_l4 :=
 some (R59_s1_l1_l4.o0 d (IntKind.i64.wrap (e+(1:Int))) b c a)
theorem f59_s1_l1_l4_j1_ok (k e f b c d a r) (g:f59_s1_l1_l4_j1 k e f b c d a=some r):EX 59 k (nav B59 [2,1,2,1,2,2,2,2,1,2,1,2,2,2,1,2]) (⟨47,[(0,.sl 1 (rowsOf encB e)),(3,.own 30000),(4,jI f),(5,.ptr 30001 0),(34,.p (.bool b))],[(30000,.row true 2 104 (rowsOf encT104 c)),(30001,.box 104 [jI d,jI a])]⟩:St)=some r.st:=by
 unfold f59_s1_l1_l4_j1 at g
 cases g
 simp (disch:=first|apply D;decide|apply K;kernel_rfl) only [E,EE,↓reduceIte,simprocAttr,xk B59 [2,1,2,1,2,2,2,2,1,2,1,2,2,2,1,2] (.bk 5) rfl,rg B59 [2,2,1,2,1,2,2,2,2,1,2,1,2,2,2,1,2] 8 false rfl,hr 59 8 rfl,R59_s1_l1_l4.st]
noncomputable def f59_s1_l1_l4_b (k:Nat) (e:List Bool) (d:Int) (b:List T104) (c a:Int):Option R59_s1_l1_l4 :=
 cond ((decide (d<((List.length e):Int))))
  (
   ifE ((0:Int)≤d) (
    Option.bind (e[(Int.toNat d)]?) fun f =>
     cond ((!f))
      (f59_s1_l1_l4_j1 k e d true b c a)
      (some (R59_s1_l1_l4.o1 e d false b c a))))
  (some (R59_s1_l1_l4.o1 e d false b c a))
theorem f59_s1_l1_l4_b_ok (k f g c d a r) (b:f59_s1_l1_l4_b k f g c d a=some r):EX 59 k (nav B59 [1,2,1,2,2,2,2,1,2,1,2,2,2,1,2]) (⟨47,[(0,.sl 1 (rowsOf encB f)),(3,.own 30000),(4,jI g),(5,.ptr 30001 0)],[(30000,.row true 2 104 (rowsOf encT104 c)),(30001,.box 104 [jI d,jI a])]⟩:St)=some r.st:=by
 unfold f59_s1_l1_l4_b at b
 simp (disch:=first|apply D;decide|apply K;kernel_rfl) only [E,EE,↓reduceIte,simprocAttr,xk B59 [1,2,1,2,2,2,2,1,2,1,2,2,2,1,2] .sq rfl,xk B59 [1,1,2,1,2,2,2,2,1,2,1,2,2,2,1,2] .sq rfl,rg B59 [1,1,1,2,1,2,2,2,2,1,2,1,2,2,2,1,2] 7 false rfl,hr 59 7 rfl,t_90]
 rcases cond_some b with ⟨e,b⟩ | ⟨e,b⟩
 ·obtain ⟨h,b⟩:=ifE_some.1 b
  obtain ⟨l,i,b⟩:=bs b
  simp (disch:=first|apply D;decide|apply K;kernel_rfl) only [E,EE,↓reduceIte,simprocAttr,indexAddrV,t_90,t_4,encB_eq,xk B59 [2,1,1,2,1,2,2,2,2,1,2,1,2,2,2,1,2] (.cd 34) rfl,e,h,i]
  rcases cond_some b with ⟨j,b⟩ | ⟨j,b⟩
  ·have hJ:=f59_s1_l1_l4_j1_ok k f g true c d a _ b
   simp (disch:=first|apply D;decide|apply K;kernel_rfl) only [E,EE,↓reduceIte,simprocAttr,xk B59 [2,2,1,1,2,1,2,2,2,2,1,2,1,2,2,2,1,2] .sk rfl,e,h,i,j]
   try simp only [NM,EE] at hJ
   exact hJ
  ·cases b
   simp (disch:=first|apply D;decide|apply K;kernel_rfl) only [E,EE,↓reduceIte,simprocAttr,xk B59 [3,2,1,1,2,1,2,2,2,2,1,2,1,2,2,2,1,2] (.ex 4) rfl,R59_s1_l1_l4.st,e,h,i,j]
 ·cases b
  simp (disch:=first|apply D;decide|apply K;kernel_rfl) only [E,EE,↓reduceIte,simprocAttr,xk B59 [2,1,1,2,1,2,2,2,2,1,2,1,2,2,2,1,2] (.cd 34) rfl,xk B59 [3,2,1,1,2,1,2,2,2,2,1,2,1,2,2,2,1,2] (.ex 4) rfl,R59_s1_l1_l4.st,e]
noncomputable def f59_s1_l1_l4 (k:Nat):Nat→(List Bool)→Int→(List T104)→Int→Int→Option R59_s1_l1_l4
 | 0,_,_,_,_,_=>none
 | n+1,i,j,f,g,a=>Option.bind (f59_s1_l1_l4_b k i j f g a) fun o =>
  match o with
  | .o0 y b c d e=>f59_s1_l1_l4 k n y b c d e
  | .o1 y b c d e h=>some (.o1 y b c d e h)
theorem f59_s1_l1_l4_ok (k n:Nat):∀ (e:List Bool) (f:Int) (b:List T104) (c a:Int) (r:R59_s1_l1_l4) (d:f59_s1_l1_l4 k n e f b c a=some r) (σ:St) (hσ:headR (hints.head 59 7) (hints.canon 59 7) σ=some (⟨47,[(0,.sl 1 (rowsOf encB e)),(3,.own 30000),(4,jI f),(5,.ptr 30001 0)],[(30000,.row true 2 104 (rowsOf encT104 b)),(30001,.box 104 [jI c,jI a])]⟩:St)),LP 59 k (nav B59 [1,2,1,2,2,2,2,1,2,1,2,2,2,1,2]) n σ=some r.st:=by
 induction n with
 | zero=>intro e f b c a r d;cases d
 | succ n m =>
  intro e f b c a r d σ hσ
  rw [f59_s1_l1_l4] at d
  obtain ⟨o,h,d⟩:=Option.bind_eq_some_iff.1 d
  have hB:=f59_s1_l1_l4_b_ok k e f b c a o h
  unfold LP at m ⊢
  unfold EX at hB
  rw [loopK_succ,show firstReg (nav B59 [1,2,1,2,2,2,2,1,2,1,2,2,2,1,2])=7 from rfl,hσ,headK_some,hB]
  cases o with
  | o0 y g i j l =>
   refine m y g i j l r d _ ?_
   simp (disch:=first|apply D;decide|apply K;kernel_rfl) only [E,EE,↓reduceIte,simprocAttr,hh_59_7,hc_59_7]
  | o1 y g i j l p=>cases d;rfl
inductive R59_s1_l1 where
 | o0 (y:List Bool) (a:Int) (b:Bool) (c:List T104)
 | o1 (y:List Bool) (a:Int) (b:List T104)
noncomputable def R59_s1_l1.st:R59_s1_l1→Out×St
 | .o0 y a b c=>(.exit 0,(⟨47,[(0,.sl 1 (rowsOf encB y)),(3,.own 30000),(4,jI a),(21,.p (.bool b))],[(30000,.row true 2 104 (rowsOf encT104 c))]⟩:St))
 | .o1 y a b=>(.norm,(⟨47,[(0,.sl 1 (rowsOf encB y)),(3,.own 45),(4,jI a)],[(45,.row true 2 104 (rowsOf encT104 b))]⟩:St))
noncomputable def f59_s1_l1_j5 (k:Nat) (e:List Bool) (d:Int) (f:Bool) (a:List T104) (b c:Int):Option R59_s1_l1 :=
 ifE (((List.length a)+1) * 16≤roomy) (
  some (R59_s1_l1.o1 e d (a++([(T104.mk b (IntKind.i64.wrap (d - b)))]:List T104))))
theorem f59_s1_l1_j5_ok (k g c d e a b r) (f:f59_s1_l1_j5 k g c d e a b=some r):blockK 1 (EX 59 k (nav B59 [2,2,2,2,2,1,2,1,2,2,2,1,2]) (⟨47,[(0,.sl 1 (rowsOf encB g)),(3,.own 30000),(4,jI c),(5,.ptr 30001 0),(34,.p (.bool d))],[(30000,.row true 2 104 (rowsOf encT104 e)),(30001,.box 104 [jI a,jI b])]⟩:St))=some r.st:=by
 unfold f59_s1_l1_j5 at f
 have h:[[jI a,(jI (IntKind.i64.wrap (c - a)))]]=rowsOf encT104 ([(T104.mk a (IntKind.i64.wrap (c - a)))]:List T104):=rfl
 have i:List.map (tell [0,0]) (rowsOf encT104 ([(T104.mk a (IntKind.i64.wrap (c - a)))]:List T104))=rowsOf encT104 ([(T104.mk a (IntKind.i64.wrap (c - a)))]:List T104):=rfl
 obtain ⟨j,f⟩:=ifE_some.1 f
 cases f
 simp (disch:=first|apply D;decide|apply K;kernel_rfl) only [E,EE,↓reduceIte,simprocAttr,xk B59 [2,2,2,2,2,1,2,1,2,2,2,1,2] .sq rfl,rg B59 [1,2,2,2,2,2,1,2,1,2,2,2,1,2] 9 false rfl,hr 59 9 rfl,fieldAddrV,t_104,t_3,rg B59 [2,2,2,2,2,2,1,2,1,2,2,2,1,2] 10 false rfl,hr 59 10 rfl,buildSliceV,fillRows,sm_104,t_74,appendV,content,R59_s1_l1.st,h,i,j]
noncomputable def f59_s1_l1_j3 (k:Nat) (c:List Bool) (b:Int) (d:Bool) (a:List T104):Option R59_s1_l1 :=
 Option.bind (f59_s1_l1_l4 k k c b a b 0) fun o1 =>
  match o1 with
  | .o0 _ _ _ _ _ =>
   none
  | .o1 e f g h i j =>
   f59_s1_l1_j5 k e f g h i j
theorem f59_s1_l1_j3_ok (k f e d a r) (b:f59_s1_l1_j3 k f e d a=some r):blockK 1 (EX 59 k (nav B59 [2,2,2,1,2,1,2,2,2,1,2]) (⟨47,[(0,.sl 1 (rowsOf encB f)),(3,.own 30000),(4,jI e),(21,.p (.bool d))],[(30000,.row true 2 104 (rowsOf encT104 a))]⟩:St))=some r.st:=by
 unfold f59_s1_l1_j3 at b
 obtain ⟨o1,g,b⟩:=bs b
 have c:=f59_s1_l1_l4_ok k k f e a e 0 _ g
 simp (disch:=first|apply D;decide|apply K;kernel_rfl) only [E,EE,↓reduceIte,simprocAttr,xk B59 [2,2,2,1,2,1,2,2,2,1,2] .sq rfl,rg B59 [1,2,2,2,1,2,1,2,2,2,1,2] 6 false rfl,hr 59 6 rfl,bl_104,t_104,xk B59 [2,2,2,2,1,2,1,2,2,2,1,2] .sq rfl,xk B59 [1,2,2,2,2,1,2,1,2,2,2,1,2] (.bk 4) rfl,xk B59 [2,1,2,2,2,2,1,2,1,2,2,2,1,2] .lp rfl,hh_59_7,hc_59_7]
 (try simp only [NM,EE] at c)
 rw [c _ (by simp (disch:=first|apply D;decide|apply K;kernel_rfl) only [E,EE,↓reduceIte,simprocAttr,hh_59_7,hc_59_7])]
 clear c
 cases o1 with
 | o0 _ _ _ _ _ =>
  (try dsimp only at b)
  cases b
 | o1 h i j l m o =>
  (try dsimp only at b)
  have hJ:=f59_s1_l1_j5_ok k h i j l m o _ b
  simp (disch:=first|apply D;decide|apply K;kernel_rfl) only [E,EE,↓reduceIte,simprocAttr,R59_s1_l1_l4.st]
  try simp only [NM,EE] at hJ
  exact hJ
noncomputable def f59_s1_l1_j2 (k:Nat) (b:List Bool) (c:Int) (d:Bool) (a:List T104):Option R59_s1_l1 :=
 cond ((c==((List.length b):Int)))
  (some (R59_s1_l1.o0 b c true a))
  (f59_s1_l1_j3 k b c false a)
theorem f59_s1_l1_j2_ok (k d e c a r) (b:f59_s1_l1_j2 k d e c a=some r):blockK 1 (EX 59 k (nav B59 [2,2,1,2,1,2,2,2,1,2]) (⟨47,[(0,.sl 1 (rowsOf encB d)),(3,.own 30000),(4,jI e),(15,.p (.bool c))],[(30000,.row true 2 104 (rowsOf encT104 a))]⟩:St))=some r.st:=by
 unfold f59_s1_l1_j2 at b
 simp (disch:=first|apply D;decide|apply K;kernel_rfl) only [E,EE,↓reduceIte,simprocAttr,xk B59 [2,2,1,2,1,2,2,2,1,2] .sq rfl,xk B59 [1,2,2,1,2,1,2,2,2,1,2] .sq rfl,rg B59 [1,1,2,2,1,2,1,2,2,2,1,2] 5 false rfl,hr 59 5 rfl,t_90,xk B59 [2,1,2,2,1,2,1,2,2,2,1,2] (.cd 21) rfl]
 rcases cond_some b with ⟨f,b⟩ | ⟨f,b⟩
 ·cases b
  simp (disch:=first|apply D;decide|apply K;kernel_rfl) only [E,EE,↓reduceIte,simprocAttr,xk B59 [2,2,1,2,2,1,2,1,2,2,2,1,2] (.ex 0) rfl,R59_s1_l1.st,f]
 ·have hJ:=f59_s1_l1_j3_ok k d e false a _ b
  simp (disch:=first|apply D;decide|apply K;kernel_rfl) only [E,EE,↓reduceIte,simprocAttr,xk B59 [3,2,1,2,2,1,2,1,2,2,2,1,2] .sk rfl,f]
  try simp only [NM,EE] at hJ
  exact hJ
noncomputable def f59_s1_l1_b (k:Nat) (b:List Bool) (c:Int) (a:List T104):Option R59_s1_l1 :=
 Option.bind (f59_s1_l1_l1 k k b c a) fun o1 =>
  match o1 with
  | .o0 _ _ _ =>
   none
  | .o1 d e f g =>
   f59_s1_l1_j2 k d e f g
theorem f59_s1_l1_b_ok (k d e a r) (b:f59_s1_l1_b k d e a=some r):EX 59 k (nav B59 [1,2,1,2,2,2,1,2]) (⟨47,[(0,.sl 1 (rowsOf encB d)),(3,.own 30000),(4,jI e)],[(30000,.row true 2 104 (rowsOf encT104 a))]⟩:St)=some r.st:=by
 unfold f59_s1_l1_b at b
 obtain ⟨o1,f,b⟩:=bs b
 have c:=f59_s1_l1_l1_ok k k d e a _ f
 simp (disch:=first|apply D;decide|apply K;kernel_rfl) only [E,EE,↓reduceIte,simprocAttr,xk B59 [1,2,1,2,2,2,1,2] (.bk 1) rfl,xk B59 [2,1,2,1,2,2,2,1,2] .sq rfl,xk B59 [1,2,1,2,1,2,2,2,1,2] (.bk 2) rfl,xk B59 [2,1,2,1,2,1,2,2,2,1,2] .lp rfl,hh_59_3,hc_59_3]
 (try simp only [NM,EE] at c)
 rw [c _ (by simp (disch:=first|apply D;decide|apply K;kernel_rfl) only [E,EE,↓reduceIte,simprocAttr,hh_59_3,hc_59_3])]
 clear c
 cases o1 with
 | o0 _ _ _ =>
  (try dsimp only at b)
  cases b
 | o1 g h i j =>
  (try dsimp only at b)
  have hJ:=f59_s1_l1_j2_ok k g h i j _ b
  simp (disch:=first|apply D;decide|apply K;kernel_rfl) only [E,EE,↓reduceIte,simprocAttr,R59_s1_l1_l1.st]
  try simp only [NM,EE] at hJ
  exact hJ
noncomputable def f59_s1_l1 (k:Nat):Nat→(List Bool)→Int→(List T104)→Option R59_s1_l1
 | 0,_,_,_=>none
 | n+1,e,f,c=>Option.bind (f59_s1_l1_b k e f c) fun o =>
  match o with
  | .o0 y a b d=>some (.o0 y a b d)
  | .o1 y a b=>f59_s1_l1 k n y a b
theorem f59_s1_l1_ok (k n:Nat):∀ (c:List Bool) (d:Int) (a:List T104) (r:R59_s1_l1) (b:f59_s1_l1 k n c d a=some r) (σ:St) (hσ:headR (hints.head 59 3) (hints.canon 59 3) σ=some (⟨47,[(0,.sl 1 (rowsOf encB c)),(3,.own 30000),(4,jI d)],[(30000,.row true 2 104 (rowsOf encT104 a))]⟩:St)),LP 59 k (nav B59 [1,2,1,2,2,2,1,2]) n σ=some r.st:=by
 induction n with
 | zero=>intro c d a r b;cases b
 | succ n g =>
  intro c d a r b σ hσ
  rw [f59_s1_l1] at b
  obtain ⟨o,h,b⟩:=Option.bind_eq_some_iff.1 b
  have hB:=f59_s1_l1_b_ok k c d a o h
  unfold LP at g ⊢
  unfold EX at hB
  rw [loopK_succ,show firstReg (nav B59 [1,2,1,2,2,2,1,2])=3 from rfl,hσ,headK_some,hB]
  cases o with
  | o0 y e f i=>cases b;rfl
  | o1 y e f =>
   refine g y e f r b _ ?_
   simp (disch:=first|apply D;decide|apply K;kernel_rfl) only [E,EE,↓reduceIte,simprocAttr,hh_59_3,hc_59_3]
inductive R59_s1 where
 | o0 (y:List T104)
noncomputable def R59_s1.st:R59_s1→Out×St
 | .o0 y=>(.ret,(⟨47,[(2,.own 30000)],[(30000,.row true 2 104 (rowsOf encT104 y))]⟩:St))
noncomputable def f59_s1_j2 (k:Nat) (c:List Bool) (d:Int) (b:Bool) (a:List T104):Option R59_s1 :=
 some (R59_s1.o0 a)
theorem f59_s1_j2_ok (k c d a b r) (e:f59_s1_j2 k c d a b=some r):EX 59 k (nav B59 [2,2,2,2,1,2]) (⟨47,[(0,.sl 1 (rowsOf encB c)),(3,.own 30000),(4,jI d),(21,.p (.bool a))],[(30000,.row true 2 104 (rowsOf encT104 b))]⟩:St)=some r.st:=by
 unfold f59_s1_j2 at e
 cases e
 simp (disch:=first|apply D;decide|apply K;kernel_rfl) only [E,EE,↓reduceIte,simprocAttr,xk B59 [2,2,2,2,1,2] .sq rfl,rg B59 [1,2,2,2,2,1,2] 11 false rfl,hr 59 11 rfl,xk B59 [2,2,2,2,2,1,2] .rt rfl,R59_s1.st]
noncomputable def f59_s1_b (k:Nat) (a:List Bool):Option R59_s1 :=
 Option.bind (f59_s1_l1 k k a 0 []) fun o1 =>
  match o1 with
  | .o0 b c d e =>
   f59_s1_j2 k b c d e
  | .o1 _ _ _ =>
   none
theorem f59_s1_b_ok (k c r) (a:f59_s1_b k c=some r):EX 59 k (nav B59 [1,2]) (⟨47,[(0,.sl 1 (rowsOf encB c))],[]⟩:St)=some r.st:=by
 unfold f59_s1_b at a
 obtain ⟨o1,d,a⟩:=bs a
 have b:=f59_s1_l1_ok k k c 0 [] _ d
 simp (disch:=first|apply D;decide|apply K;kernel_rfl) only [E,EE,↓reduceIte,simprocAttr,xk B59 [1,2] .sq rfl,rg B59 [1,1,2] 1 false rfl,hr_59_1,xk B59 [2,1,2] .sq rfl,rg B59 [1,2,1,2] 2 false rfl,hr 59 2 rfl,xk B59 [2,2,1,2] .sq rfl,xk B59 [1,2,2,1,2] (.lb 0) rfl,xk B59 [2,2,2,1,2] .sq rfl,xk B59 [1,2,2,2,1,2] (.bk 0) rfl,xk B59 [2,1,2,2,2,1,2] .lp rfl,hh_59_3,hc_59_3]
 (try simp only [NM,EE] at b)
 rw [b _ (by simp (disch:=first|apply D;decide|apply K;kernel_rfl) only [E,EE,↓reduceIte,simprocAttr,hh_59_3,hc_59_3])]
 clear b
 cases o1 with
 | o0 e f g h =>
  (try dsimp only at a)
  have hJ:=f59_s1_j2_ok k e f g h _ a
  simp (disch:=first|apply D;decide|apply K;kernel_rfl) only [E,EE,↓reduceIte,simprocAttr,R59_s1_l1.st]
  try simp only [NM,EE] at hJ
  exact hJ
 | o1 _ _ _ =>
  (try dsimp only at a)
  cases a
noncomputable def f59_s1 (k:Nat) (a:List Bool):Option R59_s1:=Option.bind (f59_s1_b k a) fun o =>
 match o with
 | .o0 y=>some (.o0 y)
theorem f59_s1_ok (k b r) (a:f59_s1 k b=some r):EX 59 k (nav B59 [2]) (⟨47,[(0,.sl 1 (rowsOf encB b))],[]⟩:St)=some r.st:=by
 unfold f59_s1 at a
 obtain ⟨o,h,a⟩:=Option.bind_eq_some_iff.1 a
 unfold EX
 rw [show (nav B59 [2])=Code.scope (nav B59 [1,2]) from rfl,ev_scope,(show exec _ _ _ _ _ _ _ _=_ from f59_s1_b_ok k b o h)]
 cases o with
 | o0 y=>cases a;simp only [R59_s1.st,jumpsK_norm,jumpsK_ret,jumpsK_exit]
noncomputable def f59_e (k:Nat) (a:List Bool):Option R59 :=
 Option.bind (f59_s1 k a) fun o1 =>
  match o1 with
  | .o0 b =>
   some (.o0 b)
theorem f59_e_ok (k c r) (a:f59_e k c=some r):finK Try.prog Try.f59 0 (EX 59 k (nav B59 []) (⟨47,[(0,.sl 1 (rowsOf encB c))],[]⟩:St))=some r.st:=by
 unfold f59_e at a
 simp (disch:=first|apply D;decide|apply K;kernel_rfl) only [E,EE,↓reduceIte,simprocAttr,xk B59 [] .sq rfl,rg B59 [1] 0 false rfl,hr 59 0 rfl]
 obtain ⟨o1,d,a⟩:=bs a
 have b:=f59_s1_ok k c _ d
 cases o1 with
 | o0 e =>
  (try dsimp only at a)
  (try simp only [NM,EE,R59_s1.st] at b)
  cases a
  simp (disch:=first|apply D;decide|apply K;kernel_rfl) only [E,EE,↓reduceIte,simprocAttr,R59_s1.st,fin59,R59.st,b]
noncomputable def f59 (k:Nat) (a:List Bool):Option R59:=match k with | 0=>none | k+1=>f59_e k a
theorem f59_ok (k a r) (b:f59 k a=some r):CV k 59 [.sl 1 (rowsOf encB a)] []=some r.st:=by
 cases k with
 | zero=>cases b
 | succ k =>
  unfold CV
  rw [ev_call (F:=Try.f59) (c:=(nav B59 [])) rfl Try.func59 rfl rfl rfl rfl]
  exact f59_e_ok k a r b
-- f35: f35 heliograph/pieces.Missing
inductive R35 where
 | o0 (y:Int) (a:List T104)
noncomputable def R35.st:R35→V×List O×List O
 | .o0 y a=>(V.tup [.own 2000000,jI y],[],[.row true 2 104 (rowsOf encT104 a)])
noncomputable def f35_e (k:Nat) (e:List T39):Option R35 :=
 Option.bind (f58 k e) fun o1 =>
  match o1 with
  | .o0 f i g =>
   Option.bind (f59 k f) fun o7 =>
    match o7 with
    | .o0 a =>
     some (.o0 g a)
  | .o1 b c h =>
   Option.bind (f59 k c) fun o14 =>
    match o14 with
    | .o0 d =>
     some (.o0 b d)
theorem f35_e_ok (k e r) (a:f35_e k e=some r):finK Try.prog Try.f35 0 (EX 35 k (nav B35 []) (⟨16,[(0,.sl 11 (rowsOf encT39 e))],[]⟩:St))=some r.st:=by
 unfold f35_e at a
 simp (disch:=first|apply D;decide|apply K;kernel_rfl) only [E,EE,↓reduceIte,simprocAttr,xk B35 [] .sq rfl,rg B35 [1] 0 false rfl,hr 35 0 rfl,xk B35 [2] .sq rfl,rg B35 [1,2] 1 false rfl,hr 35 1 rfl,callStep,CL,gv,List.contains]
 obtain ⟨o1,h,a⟩:=bs a
 have b:=f58_ok k e _ h
 cases o1 with
 | o0 i q s =>
  (try dsimp only at a)
  (try simp only [NM,EE,R58.st] at b)
  obtain ⟨o7,j,a⟩:=bs a
  have d:=f59_ok k i _ j
  cases o7 with
  | o0 l =>
   (try dsimp only at a)
   (try simp only [NM,EE,R59.st] at d)
   cases a
   simp (disch:=first|apply D;decide|apply K;kernel_rfl) only [E,EE,↓reduceIte,simprocAttr,xk B35 [2,2] .sq rfl,rg B35 [1,2,2] 2 false rfl,hr 35 2 rfl,callStep,CL,gv,List.contains,xk B35 [2,2,2] .rt rfl,fin35,R35.st,b,d]
 | o1 m f o =>
  (try dsimp only at a)
  (try simp only [NM,EE,R58.st] at b)
  obtain ⟨o14,g,a⟩:=bs a
  have c:=f59_ok k f _ g
  cases o14 with
  | o0 p =>
   (try dsimp only at a)
   (try simp only [NM,EE,R59.st] at c)
   cases a
   simp (disch:=first|apply D;decide|apply K;kernel_rfl) only [E,EE,↓reduceIte,simprocAttr,xk B35 [2,2] .sq rfl,rg B35 [1,2,2] 2 false rfl,hr 35 2 rfl,callStep,CL,gv,List.contains,xk B35 [2,2,2] .rt rfl,fin35,R35.st,b,c]
noncomputable def f35 (k:Nat) (a:List T39):Option R35:=match k with | 0=>none | k+1=>f35_e k a
theorem f35_ok (k a r) (b:f35 k a=some r):CV k 35 [.sl 11 (rowsOf encT39 a)] []=some r.st:=by
 cases k with
 | zero=>cases b
 | succ k =>
  unfold CV
  rw [ev_call (F:=Try.f35) (c:=(nav B35 [])) rfl Try.func35 rfl rfl rfl rfl]
  exact f35_e_ok k a r b
end Go.Proofs.YticggdfaehneeaaV